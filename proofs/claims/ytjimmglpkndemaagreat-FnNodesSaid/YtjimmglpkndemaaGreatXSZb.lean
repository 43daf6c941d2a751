/- What a node renews, by both programs. Conditions: none. -/
import Derived.Test.YtjimmglpkndemaaGreatXSL
namespace Go.Proofs.YtjimmglpkndemaaGreatC
attribute [local irreducible] jp
open Int renaming reduceLE -> af, reduceLT -> ah, reduceEq -> ai, reduceGT -> aj, reduceGE -> ak, reduceAdd -> ap, reduceSub -> aq, reduceMul -> au, reduceNeg -> av
set_option linter.unusedVariables false
set_option linter.unusedSimpArgs false
theorem HX(s:List ay)(r:ay):bA s r<s.length:=o5 _ _
theorem auC{r:ay}(h:eP r=true):1<=r.seq∧r.seq<=100000:=by
 unfold eP at h
 simp only[bL,be]at h
 exact h.1.2
theorem HY{s:List ay}(h:dv s=true)(r:ay):0<=nQ s r∧nQ s r<=100000:=by
 unfold nQ
 split
 ·omega
 ·have:=auC (Dd h (iT (l:=s) (n:=bA s r) (by omega) (HX s r)))
  omega
theorem HZ{x:Self}(h:dv x.store=true)(hb:0<=x.aV∧x.aV<=90)(r:ay):1<=sY x r∧sY x r<=100001:=by
 have:=HY h r
 unfold sY
 split<;>omega
theorem auD(t0 t2 t3 t4 t5 u4 u5 u6 u7:T)(x:Self)(r:ay)(h:dv x.store=true)(hb:0<=x.aV∧x.aV<=90)(hl:x.store.length<=1048576):
  CP [t0,ii x.aV,t2,t3,t4,t5,.l (x.store.map aw),ii r.ae,ii r.kind,ii r.owner,ii r.key,u4,u5,u6,u7]=some [ii (sY x r)]:=by
 have hk:=He x.store r.ae r.kind r.owner r.key u4 u5 u6 u7 hl
 rw[wM]at hk
 have ho:=HY h r
 rw[arC]
 unfold sY
 unfold nQ at ho⊢
 have bC:=HX x.store r
 by_cases h0:bA x.store r<0
 ·have h1:¬bA x.store r>=0:=by omega
  rw[if_pos h0]at ho⊢
  simp(disch:=omega) only[↓pq,↓pj,ps,pz,↓reduceIte,af,ah,ai,aj,ak,ap,aq,au,av,GW,hk,h1]
 ·have h1:bA x.store r>=0:=by omega
  have h2:0<=bA x.store r:=by omega
  rw[if_neg h0]at ho⊢
  simp(disch:=omega) only[↓pq,↓pj,ps,pz,↓reduceIte,af,ah,ai,aj,ak,ap,aq,au,av,GW,hk,h1,h2,bC]
theorem adq(t0 t2 t3 t4 t5 t6:T)(x:Self)(r:ay)(h:dv x.store=true)(hb:0<=x.aV∧x.aV<=90):
  Cq [t0,ii x.aV,t2,t3,t4,t5,t6,ii (nQ x.store r)]=some [ii (sY x r)]:=by
 have ho:=HY h r
 rw[apG]
 unfold sY
 by_cases h1:nQ x.store r<1000*x.aV
 ·have h2:1000*x.aV+1>nQ x.store r+1:=by omega
  rw[if_pos h2]
  simp(disch:=omega) only[↓pq,↓pj,ps,pz,↓reduceIte,af,ah,ai,aj,ak,ap,aq,au,av,GC,h1]
 ·have h2:¬1000*x.aV+1>nQ x.store r+1:=by omega
  rw[if_neg h2]
  simp(disch:=omega) only[↓pq,↓pj,ps,pz,↓reduceIte,af,ah,ai,aj,ak,ap,aq,au,av,GC,h1]
theorem auE(r:ay)(t:T):CQ [ii r.ae,ii r.kind,ii r.owner,ii r.key,ii r.seq,t,ii r.cost,bb r.e_]=some (aw (gu r)):=by
 rw[arE]
 unfold gu
 by_cases h:r.kind=1
 ·rw[if_pos h]
  simp(disch:=omega) only[↓pq,↓pj,ps,pz,↓reduceIte,af,ah,ai,aj,ak,ap,aq,au,av,GX,h]
  rfl
 ·rw[if_neg h]
  simp(disch:=omega) only[↓pq,↓pj,ps,pz,↓reduceIte,af,ah,ai,aj,ak,ap,aq,au,av,GX,h]
  rfl
theorem auF(r:ay)(h:r.kind≠1->r.aX=[]):XZ [ii r.ae,ii r.kind,ii r.owner,ii r.key,ii r.seq,.l (r.aX.map eJ),ii r.cost,bb r.e_]=some (aw (gu r)):=by
 rw[apI]
 unfold gu
 by_cases hk:r.kind=1
 ·rw[if_pos hk]
  simp(disch:=omega) only[↓pq,↓pj,ps,pz,↓reduceIte,af,ah,ai,aj,ak,ap,aq,au,av,GD,hk]
  rfl
 ·rw[if_neg hk]
  simp(disch:=omega) only[↓pq,↓pj,ps,pz,↓reduceIte,af,ah,ai,aj,ak,ap,aq,au,av,GD,hk]
  rw[h hk]
  rfl
theorem auG{r:ay}(h:eP r=true):r.kind≠1->r.aX=[]:=by
 intro hk
 unfold eP at h
 simp only[bL]at h
 have h:=h.2
 rw[if_neg hk]at h
 split at h
 ·simp only[bL,decide_eq_true_eq]at h
  exact List.eq_nil_of_length_eq_zero (by omega)
 ·split at h
  ·simp only[bL,decide_eq_true_eq]at h
   exact List.eq_nil_of_length_eq_zero (by omega)
  ·cases h
theorem Q0(r:ay):(gu r).aX=[]:=by unfold gu;split<;>rfl
theorem adr{x:Self}{k:Nat}{c:List ay}(h:Fit k c){r:ay}(hr:r.aX.length<=1048576):Fit (k+1) (qA x c r):=by
 unfold qA
 split
 ·exact h.put hr
 ·exact h.mono (by omega)
theorem ads{x:Self}{W:List ay}{k:Nat}{c:List ay}(h:Fit k c)(r:ay):Fit (k+1) (s5 x W c r):=by
 unfold s5
 split
 ·exact h.put (by show(gu r).aX.length<=_;rw[Q0];simp)
 ·exact h.mono (by omega)
section
variable (x:Self) (W:List ay) (t2 t3 t4:T)
theorem auH(h:dv x.store=true)(hb:0<=x.aV∧x.aV<=90)(hs:aQ x.store)(hW:W.length<=25)(hn:aQ W)(th:T)
  (hw:QA [ii x.id,ii x.aV,t2,t3,t4,th,.l (x.store.map aw)]=some [.l (W.map aw)]):
  CR [ii x.id,ii x.aV,t2,t3,t4,th,.l (x.store.map aw)]=some [.l ((qB x W).map aw)]:=by
 have hf:=Jm h hs
 have vj:=hf.len
 have hq:=λr:ay=>λu4 u5 u6 u7=>auD (ii x.id) t2 t3 t4 th u4 u5 u6 u7 x r h hb (by omega)
 rw[arG];simp(disch:=omega) only[↓pq,↓pj,ps,pz,↓reduceIte,af,ah,ai,aj,ak,ap,aq,au,av,C2,C3,N_,hw]
 refine gO W (λi c=>[.l (c.map aw),ii i,.l (W.map aw)]) (qA x) (λc=>some [T.l ((x.store.foldl (s5 x W) c).map aw)]) [] (λi c=>Fit i c) rfl (c_ (by omega)) Fit.nil ?_ ?_
 ·intro i c hi hc
  have mi:=hn.gt (n:=i) (by omega) hi
  refine⟨adr hc mi,λq=>?_⟩
  have tg:=hc.len
  have hk:=He x.store (gt W (i:Int)).ae (gt W (i:Int)).kind (gt W (i:Int)).owner (gt W (i:Int)).key (ii (gt W (i:Int)).seq) (.l ((gt W (i:Int)).aX.map eJ)) (ii (gt W (i:Int)).cost) (bb (gt W (i:Int)).e_) (by omega)
  rw[wM]at hk
  have hq:=hq (gt W (i:Int)) (ii (gt W (i:Int)).seq) (.l ((gt W (i:Int)).aX.map eJ)) (ii (gt W (i:Int)).cost) (bb (gt W (i:Int)).e_)
  have hp:=Da c (gt W (i:Int)).ae (gt W (i:Int)).kind (gt W (i:Int)).owner (gt W (i:Int)).key (sY x (gt W (i:Int))) (gt W (i:Int)).aX (gt W (i:Int)).cost (gt W (i:Int)).e_ (by omega) hc.aX hc.so mi
  have bC:=HX x.store (gt W (i:Int))
  unfold qA qz
  by_cases h0:bA x.store (gt W (i:Int))<0
  ·simp(disch:=omega) only[↓pq,↓pj,ps,pz,↓reduceIte,af,ah,ai,aj,ak,ap,aq,au,av,C2,C3,hi,hk,h0,hq,hp,decide_true,Bool.true_or]
   rfl
  ·have h1:0<=bA x.store (gt W (i:Int)):=by omega
   have pH:=Oz (gt x.store (bA x.store (gt W (i:Int)))).ae (gt x.store (bA x.store (gt W (i:Int)))).kind (gt x.store (bA x.store (gt W (i:Int)))).owner (gt x.store (bA x.store (gt W (i:Int)))).key (gt x.store (bA x.store (gt W (i:Int)))).seq (gt x.store (bA x.store (gt W (i:Int)))).aX (gt x.store (bA x.store (gt W (i:Int)))).cost (gt x.store (bA x.store (gt W (i:Int)))).e_ (gt W (i:Int)).ae (gt W (i:Int)).kind (gt W (i:Int)).owner (gt W (i:Int)).key (gt W (i:Int)).seq (gt W (i:Int)).aX (gt W (i:Int)).cost (gt W (i:Int)).e_ (hs.gt h1 bC)
   rw[show(⟨(gt x.store (bA x.store (gt W (i:Int)))).ae,(gt x.store (bA x.store (gt W (i:Int)))).kind,(gt x.store (bA x.store (gt W (i:Int)))).owner,(gt x.store (bA x.store (gt W (i:Int)))).key,(gt x.store (bA x.store (gt W (i:Int)))).seq,(gt x.store (bA x.store (gt W (i:Int)))).aX,(gt x.store (bA x.store (gt W (i:Int)))).cost,(gt x.store (bA x.store (gt W (i:Int)))).e_⟩:ay)=gt x.store (bA x.store (gt W (i:Int))) from rfl,show(⟨(gt W (i:Int)).ae,(gt W (i:Int)).kind,(gt W (i:Int)).owner,(gt W (i:Int)).key,(gt W (i:Int)).seq,(gt W (i:Int)).aX,(gt W (i:Int)).cost,(gt W (i:Int)).e_⟩:ay)=gt W (i:Int) from rfl]at pH
   cases j1:vy (gt x.store (bA x.store (gt W (i:Int)))) (gt W (i:Int))with
   |true=>
    rw[j1]at pH
    simp(disch:=omega) only[↓pq,↓pj,ps,pz,↓reduceIte,af,ah,ai,aj,ak,ap,aq,au,av,C2,C3,hi,hk,h0,h1,bC,pH,decide_false,Bool.false_or,Bool.not_true,cE]
   |false=>
    rw[j1]at pH
    simp(disch:=omega) only[↓pq,↓pj,ps,pz,↓reduceIte,af,ah,ai,aj,ak,ap,aq,au,av,C2,C3,hi,hk,h0,h1,bC,pH,hq,hp,decide_false,Bool.false_or,Bool.not_false,cE]
    rfl
 ·intro c q hc
  simp(disch:=omega) only[↓pq,↓pj,ps,pz,↓reduceIte,af,ah,ai,aj,ak,ap,aq,au,av,C2,C3,]
  refine gO x.store (λi c=>[.l (c.map aw),ii i]) (s5 x W) (λc=>some [T.l (c.map aw)]) c (λi c=>Fit (25+i) c) rfl (c_ (by omega)) (hc.mono (by omega)) ?_ ?_
  ·intro i c hi hc
   refine⟨ads hc _,λq=>?_⟩
   have tg:=hc.len
   generalize hr:gt x.store (i:Int)=r
   have hk:=He W r.ae r.kind r.owner r.key (ii r.seq) (.l (r.aX.map eJ)) (ii r.cost) (bb r.e_) (by omega)
   rw[wM]at hk
   have hq:=hq r (ii r.seq) (.l (r.aX.map eJ)) (ii r.cost) (bb r.e_)
   have hg:=auE r (.l (r.aX.map eJ))
   have pH:=Oz (gu r).ae (gu r).kind (gu r).owner (gu r).key (gu r).seq (gu r).aX (gu r).cost (gu r).e_ r.ae r.kind r.owner r.key r.seq r.aX r.cost r.e_ (by rw[Q0];simp)
   have hp:=Da c (gu r).ae (gu r).kind (gu r).owner (gu r).key (sY x r) (gu r).aX (gu r).cost (gu r).e_ (by omega) hc.aX hc.so (by rw[Q0];simp)
   rw[show(⟨(gu r).ae,(gu r).kind,(gu r).owner,(gu r).key,(gu r).seq,(gu r).aX,(gu r).cost,(gu r).e_⟩:ay)=gu r from rfl,show(⟨r.ae,r.kind,r.owner,r.key,r.seq,r.aX,r.cost,r.e_⟩:ay)=r from rfl]at pH
   unfold s5 sZ
   simp only[aw]at hg
   by_cases h0:r.owner=x.id
   ·rw[h0]at hk hq hg pH
    by_cases h1:bA W r<0
    ·have h2:¬bA W r>=0:=by omega
     cases j1:vy (gu r) r with
     |true=>
      rw[j1]at pH
      simp(disch:=omega) only[↓pq,↓pj,ps,pz,↓reduceIte,af,ah,ai,aj,ak,ap,aq,au,av,C2,C3,hi,hr,h0,hk,h1,h2,hg,pH,Bool.not_true,Bool.and_false,cE]
     |false=>
      have e0:(r.owner==x.id)=true:=by simpa using h0
      rw[j1]at pH
      simp(disch:=omega) only[↓pq,↓pj,ps,pz,↓reduceIte,af,ah,ai,aj,ak,ap,aq,au,av,C2,C3,hi,hr,h0,hk,h1,h2,hg,pH,hq,hp,Bool.not_false,Bool.and_true,beq_self_eq_true,decide_true]
      rfl
    ·have h2:bA W r>=0:=by omega
     simp(disch:=omega) only[↓pq,↓pj,ps,pz,↓reduceIte,af,ah,ai,aj,ak,ap,aq,au,av,C2,C3,hi,hr,h0,hk,h1,h2,decide_false,Bool.false_and,Bool.and_false,cE]
   ·have e0:(r.owner==x.id)=false:=by simpa using h0
    simp(disch:=omega) only[↓pq,↓pj,ps,pz,↓reduceIte,af,ah,ai,aj,ak,ap,aq,au,av,C2,C3,hi,hr,h0,e0,Bool.false_and,cE]
  ·intro c q hc
   simp(disch:=omega) only[↓pq,↓pj,ps,pz,↓reduceIte,af,ah,ai,aj,ak,ap,aq,au,av,C2,C3,]
end
theorem auI{α γ:Type} [Inhabited α](l:List α)(p:α->Bool)(g:γ->α->γ)(c:γ):
  F2 (λi _=>p (gt l (i:Int))) (λc i=>g c (gt l (i:Int))) l.length c=if l.all p=true then some (l.foldl g c)else none:=by
 have key:∀(m:List α) (o:γ),m.foldl (λ(o:Option γ) a=>o.bind λc=>if p a=true then some (g c a)else none) (some o)=if m.all p=true then some (m.foldl g o)else none:=by
  intro m
  induction m with
  |nil=>intro o;simp
  |cons a m ih=>
   intro o
   rw[List.foldl_cons,Option.bind_some]
   cases hp:p a with
   |true=>rw[if_pos rfl,ih];simp[hp]
   |false=>
    rw[if_neg (by decide)]
    have:∀m:List α,m.foldl (λ(o:Option γ) a=>o.bind λc=>if p a=true then some (g c a)else none) none=none:=by
     intro m;induction m with
     |nil=>rfl
     |cons a m ih=>exact ih
    rw[this];simp[hp]
 have e:l=(List.range l.length).map λi:Nat=>gt l (i:Int):=by
  refine List.ext_getElem (by simp) λi h1 h2=>?_
  rw[List.getElem_map,List.getElem_range,eh h1]
 rw[<-key]
 conv=>rhs;rw[e]
 rw[List.foldl_map]
 rfl
theorem adt(x:Self)(h1:x.net.aB.length<=1048576)(h2:x.net.aG.length<=1048576)(h3:x.heard.length<=1048576)(h4:x.store.length<=1048576)(h5:aQ x.store):
  Ec [ii x.id,ii x.aV,ii x.net.n,.l (x.net.aB.map cT),.l (x.net.aG.map dj),.l (x.heard.map aE),.l (x.store.map aw)]=some (ie x):=by
 have hN:Qy [ii x.net.n,.l (x.net.aB.map cT),.l (x.net.aG.map dj)]=some [ii x.net.n,.l (x.net.aB.map cT),.l (x.net.aG.map dj)]:=by
  rw[abZ];simp(disch:=omega) only[↓pq,↓pj,ps,pz,↓reduceIte,af,ah,ai,aj,ak,ap,aq,au,av,GM]
 rw[ab0];simp(disch:=omega) only[↓pq,↓pj,ps,pz,↓reduceIte,af,ah,ai,aj,ak,ap,aq,au,av,GN,hN,re _ h3,Hf _ h4 h5]
 rfl
theorem auJ(x:Self)(h1:x.net.aB.length<=1048576)(h2:x.net.aG.length<=1048576)(h3:x.heard.length<=1048576)(h4:x.store.length<=1048576)(h5:aQ x.store):
  Ea [ii x.id,ii x.aV,ii x.net.n,.l (x.net.aB.map cT),.l (x.net.aG.map dj),.l (x.heard.map aE),.l (x.store.map aw)]=some (ie x):=by
 rw[abQ];simp(disch:=omega) only[↓pq,↓pj,ps,pz,↓reduceIte,af,ah,ai,aj,ak,ap,aq,au,av,Gz,Ek _ h4 h5]
 rfl
theorem auK(s:List ay)(r:ay)(u4 u5 u6 u7:T)(h:s.length<=1048576)(hn:aQ s):
  Cp [.l (s.map aw),ii r.ae,ii r.kind,ii r.owner,ii r.key,u4,u5,u6,u7]=if bA s r<0 then some [ii 0,ii 0,ii 0,ii 0,ii 0,.l [],ii 0,bb false,bb false]else some (aw (gt s (bA s r))++[bb true]):=by
 have hk:=C9 s r.ae r.kind r.owner r.key u4 u5 u6 u7 h
 rw[wM]at hk
 have bC:=HX s r
 rw[apC]
 by_cases h0:bA s r<0
 ·rw[if_pos h0]
  simp(disch:=omega) only[↓pq,↓pj,ps,pz,↓reduceIte,af,ah,ai,aj,ak,ap,aq,au,av,GA,hk,h0]
 ·rw[if_neg h0]
  have h1:0<=bA s r:=by omega
  have mi:=hn.gt h1 bC
  simp(disch:=omega) only[↓pq,↓pj,ps,pz,↓reduceIte,af,ah,ai,aj,ak,ap,aq,au,av,GA,hk,h0,h1,bC,AC]
  rfl
theorem H0{x:Self}(S:List ay)(ht:x.net.aG.length<=4)(hh:x.heard.length<=1048576):Fit 25 (ng x S):=by
 have h1:=HU x
 have h2:=aug x S
 have h3:=adh x
 refine(Fit.lE (f:=same) (l:=fO x++oM x S++HT x) (λr hr=>?_) Fit.nil).mono ?_
 ·show r.aX.length<=_
  rcases List.mem_append.1 hr with hr|hr
  ·rcases List.mem_append.1 hr with hr|hr
   ·exact HV hh r hr
   ·unfold oM at hr
    split at hr
    ·obtain⟨a,_,hr⟩:=List.mem_flatMap.1 hr
     exact Pr _ _ _ _ r hr
    ·cases hr
  ·obtain⟨t,_,rfl⟩:=List.mem_map.1 hr
   simp[qy]
 ·simp only[List.length_append];omega
theorem Pw{x:Self}{W:List ay}(hW:Fit 25 W)(hs:x.store.length<=150):Fit 175 (qB x W):=by
 have h1:∀(l c:List ay) k,(∀r∈l,r.aX.length<=1048576)->Fit k c->Fit (k+l.length) (l.foldl (qA x) c):=by
  intro l
  induction l with
  |nil=>intro c k _ h;exact h
  |cons a l ih=>intro c k hl h;rw[List.foldl_cons,List.length_cons];exact(ih _ _ (λr hr=>hl r (.tail _ hr)) (adr h (hl a (.head _)))).mono (by omega)
 have h2:∀(l c:List ay) k,Fit k c->Fit (k+l.length) (l.foldl (s5 x W) c):=by
  intro l
  induction l with
  |nil=>intro c k h;exact h
  |cons a l ih=>intro c k h;rw[List.foldl_cons,List.length_cons];exact(ih _ _ (ads h a)).mono (by omega)
 have hl:=hW.len
 exact(h2 _ _ _ (h1 W [] 0 hW.aX Fit.nil)).mono (by omega)
theorem auL{x:Self}(h:dv x.store=true)(hb:0<=x.aV∧x.aV<=90)(W:List ay):∀r∈qB x W,1<=r.seq:=by
 have hp:∀(c:List ay) (r:ay),1<=r.seq->(∀y∈c,1<=y.seq)->∀y∈cM c r,1<=y.seq:=by
  intro c r h1 h2 y hy
  rcases wN hy with rfl|hy
  ·exact h1
  ·exact h2 y hy
 have h1:∀(l c:List ay),(∀y∈c,1<=y.seq)->∀y∈l.foldl (qA x) c,1<=y.seq:=by
  intro l
  induction l with
  |nil=>intro c h;exact h
  |cons a l ih=>
   intro c hc
   rw[List.foldl_cons]
   refine ih _ ?_
   unfold qA
   split
   ·exact hp _ _ (HZ h hb a).1 hc
   ·exact hc
 have h2:∀(l c:List ay),(∀y∈c,1<=y.seq)->∀y∈l.foldl (s5 x W) c,1<=y.seq:=by
  intro l
  induction l with
  |nil=>intro c h;exact h
  |cons a l ih=>
   intro c hc
   rw[List.foldl_cons]
   refine ih _ ?_
   unfold s5
   split
   ·exact hp _ _ (HZ h hb a).1 hc
   ·exact hc
 exact h2 _ _ (h1 _ _ (by simp))
def jg(x:Self):Self×List ay:=if jf x=true then vD x (ng x (qS x.store x.id (fO x)))else(x,[])
theorem Px(x:Self)(h1:x.net.aB.length<=1048576)(h2:x.net.aG.length<=1048576)(h3:x.heard.length<=1048576)(h4:x.store.length<=1048576)(h5:aQ x.store):
  Mk [ii x.id,ii x.aV,ii x.net.n,.l (x.net.aB.map cT),.l (x.net.aG.map dj),.l (x.heard.map aE),.l (x.store.map aw)]=some (ie (jg x).1++[.l ((jg x).2.map aw)]):=by
 have hS:=G9 x.id x.aV x.net.n x.net.aB x.net.aG x.heard x.store h1 h2 h3 h4 h5
 rw[show(⟨x.id,x.aV,⟨x.net.n,x.net.aB,x.net.aG⟩,x.heard,x.store⟩:Self)=x from rfl]at hS
 have hC:=adt x h1 h2 h3 h4 h5
 simp only[ie]at hC
 cases hk:jf x with
 |false=>
  rw[hk]at hS
  rw[show jg x=(x,[]) from by unfold jg;rw[if_neg (by rw[hk];decide)]]
  rw[ab2];simp(disch:=omega) only[↓pq,↓pj,ps,pz,↓reduceIte,af,ah,ai,aj,ak,ap,aq,au,av,Oa,GY,hS,hC,cE]
  rfl
 |true=>
  rw[hk]at hS
  rw[show jg x=vD x (ng x (qS x.store x.id (fO x))) from by unfold jg;rw[if_pos hk]]
  obtain⟨hN,hid,iS,jJ,uo,cn⟩:=mJ hk
  obtain⟨n1,hl,ht,hA,hT⟩:=rM hN
  have hW:=aun x.id x.aV x.net.n x.net.aB x.net.aG x.heard x.store h1 h2 h3 h4 h5 hk
  rw[show(⟨x.id,x.aV,⟨x.net.n,x.net.aB,x.net.aG⟩,x.heard,x.store⟩:Self)=x from rfl]at hW
  have Jo:=H0 (x:=x) (qS x.store x.id (fO x)) ht h3
  generalize ng x (qS x.store x.id (fO x))=W at hW Jo
  have hf:=Jm cn h5
  have hF:=auH x W _ _ _ cn iS h5 Jo.len Jo.aX _ hW
  have hlf:=Pw (x:=x) Jo hf.len
  unfold vD
  generalize qB x W=l at hF hlf
  have D6:=hlf.len
  rw[ab2];simp(disch:=omega) only[↓pq,↓pj,ps,pz,↓reduceIte,af,ah,ai,aj,ak,ap,aq,au,av,Oa,GY,hS,hC,hF,Hf _ h4 h5]
  refine(Lz l.length (λi c=>[.l [],.l (c.map aw),ii i]) (λi _=>decide ((gt l (i:Int)).seq<=100000)) (λc i=>cM c (same (gt l (i:Int)))) (λc=>some (if c.length<=150 then ie {x with store:=c}++[.l (l.map aw)]else ie x++[.l []])) (fF:=some (ie x++[.l []])) x.store (λi c=>Fit (150+i) c) rfl (c_ (by omega)) hf ?_ ?_).trans ?_
  ·intro i c hi hc
   have mi:=hlf.aX.gt (n:=i) (by omega) hi
   refine⟨λ_=>hc.put mi,λq=>?_⟩
   have tg:=hc.len
   have hp:=Da c (gt l (i:Int)).ae (gt l (i:Int)).kind (gt l (i:Int)).owner (gt l (i:Int)).key (gt l (i:Int)).seq (gt l (i:Int)).aX (gt l (i:Int)).cost (gt l (i:Int)).e_ (by omega) hc.aX hc.so mi
   by_cases hq:(gt l (i:Int)).seq<=100000
   ·have j6:¬(gt l (i:Int)).seq>100000:=by omega
    simp(disch:=omega) only[↓pq,↓pj,ps,pz,↓reduceIte,af,ah,ai,aj,ak,ap,aq,au,av,Oa,hi,hq,j6,hp,decide_true]
    rfl
   ·have j6:(gt l (i:Int)).seq>100000:=by omega
    simp(disch:=omega) only[↓pq,↓pj,ps,pz,↓reduceIte,af,ah,ai,aj,ak,ap,aq,au,av,Oa,hi,hq,j6,decide_false,cE]
    rfl
  ·intro c q hc
   by_cases hq:c.length<=150
   ·have j6:¬(c.length:Int)>150:=by omega
    rw[if_pos hq]
    simp(disch:=omega) only[↓pq,↓pj,ps,pz,↓reduceIte,af,ah,ai,aj,ak,ap,aq,au,av,Oa,j6]
    rfl
   ·have j6:(c.length:Int)>150:=by omega
    rw[if_neg hq]
    simp(disch:=omega) only[↓pq,↓pj,ps,pz,↓reduceIte,af,ah,ai,aj,ak,ap,aq,au,av,Oa,j6]
    rfl
  ·rw[auI l (λr=>decide (r.seq<=100000)) (λc r=>cM c (same r))]
   cases Es:l.all λr=>decide (r.seq<=100000)with
   |false=>
    rw[if_neg (by decide),if_neg (by rintro⟨h,_⟩;cases h)]
    rfl
   |true=>
    rw[if_pos rfl]
    show some (if(eQ same x.store l).length<=150 then _ else _)=_
    by_cases hq:(eQ same x.store l).length<=150
    ·rw[if_pos hq,if_pos ⟨rfl,hq⟩]
     rfl
    ·rw[if_neg hq,if_neg λh=>hq h.2]
     rfl
def uN(k:Nat)(c:List ay):Prop:=Fit k c∧∀y∈c,1<=y.seq
theorem uN.put{k:Nat}{c:List ay}(h:uN k c){r:ay}(hr:r.aX.length<=1048576)(hq:1<=r.seq):uN (k+1) (cM c r):=
 ⟨h.1.put hr,λy hy=>by
  rcases wN hy with rfl|hy
  ·exact hq
  ·exact h.2 y hy⟩
theorem uN.mono{k k':Nat}{c:List ay}(h:uN k c)(hk:k<=k'):uN k' c:=⟨h.1.mono hk,h.2⟩
def Dz(x:Self)(l:List ay):List T:=
 if l.all (λr=>decide (r.seq<=100000))=true∧(eQ same x.store l).length<=150 then ie {x with store:=eQ same x.store l}++[.l (l.map aw)]else ie x++[.l []]
theorem H2(x:Self)(h1:x.net.aB.length<=1048576)(h2:x.net.aG.length<=1048576)(h3:x.heard.length<=1048576)(h4:x.store.length<=1048576)(h5:aQ x.store):
  F_ [ii x.id,ii x.aV,ii x.net.n,.l (x.net.aB.map cT),.l (x.net.aG.map dj),.l (x.heard.map aE),.l (x.store.map aw)]=some (ie (jg x).1++[.l ((jg x).2.map aw)]):=by
 have hS:=C7 x.id x.aV x.net.n x.net.aB x.net.aG x.heard x.store h1 h2 h3 h4 h5
 rw[show(⟨x.id,x.aV,⟨x.net.n,x.net.aB,x.net.aG⟩,x.heard,x.store⟩:Self)=x from rfl]at hS
 have hC:=auJ x h1 h2 h3 h4 h5
 simp only[ie]at hC
 cases hk:jf x with
 |false=>
  rw[hk]at hS
  rw[show jg x=(x,[]) from by unfold jg;rw[if_neg (by rw[hk];decide)]]
  rw[abS];simp(disch:=omega) only[↓pq,↓pj,ps,pz,↓reduceIte,af,ah,ai,aj,ak,ap,aq,au,av,vo,vp,vq,GF,hS,hC,cE]
  rfl
 |true=>
  rw[hk]at hS
  rw[show jg x=vD x (ng x (qS x.store x.id (fO x))) from by unfold jg;rw[if_pos hk],<-auB hk]
  obtain⟨hN,hid,iS,jJ,uo,cn⟩:=mJ hk
  obtain⟨n1,hl,ht,hA,hT⟩:=rM hN
  have hW:=aus x.id x.aV x.net.n x.net.aB x.net.aG x.heard x.store h1 h2 h3 h4 h5 hk
  rw[show(⟨x.id,x.aV,⟨x.net.n,x.net.aB,x.net.aG⟩,x.heard,x.store⟩:Self)=x from rfl]at hW
  have Jo:=H0 (x:=x) (xX x) ht h3
  generalize ng x (xX x)=W at hW Jo
  have hf:=Jm cn h5
  have vj:=hf.len
  have hWl:=Jo.len
  rw[show some (ie (vD x W).1++[T.l ((vD x W).2.map aw)])=some (Dz x (x.store.foldl (s5 x W) (W.foldl (qA x) []))) from by
   unfold vD Dz
   rw[show x.store.foldl (s5 x W) (W.foldl (qA x) [])=qB x W from rfl]
   split<;>rfl]
  rw[abS];simp(disch:=omega) only[↓pq,↓pj,ps,pz,↓reduceIte,af,ah,ai,aj,ak,ap,aq,au,av,vo,vp,vq,GF,hS,hW]
  refine gO W (λi c=>[.l (c.map aw),ii i]) (qA x) (λc=>some (Dz x (x.store.foldl (s5 x W) c))) [] (λi c=>uN i c) rfl (c_ (by omega)) ⟨Fit.nil,by simp⟩ ?_ ?_
  ·intro i c hi hc
   have mi:=Jo.aX.gt (n:=i) (by omega) hi
   generalize hw:gt W (i:Int)=w at mi
   refine⟨?_,λq=>?_⟩
   ·unfold qA
    split
    ·exact hc.put mi (HZ cn iS w).1
    ·exact hc.mono (by omega)
   ·have tg:=hc.1.len
    have hF:=auK x.store w (ii w.seq) (.l (w.aX.map eJ)) (ii w.cost) (bb w.e_) h4 h5
    have hq:=adq (ii x.id) (ii x.net.n) (.l (x.net.aB.map cT)) (.l (x.net.aG.map dj)) (.l (x.heard.map aE)) (.l (x.store.map aw)) x w cn iS
    have hp:=Jd c w.ae w.kind w.owner w.key (sY x w) w.aX w.cost w.e_ (by omega) hc.1.aX mi
    have bC:=HX x.store w
    unfold qA qz
    unfold nQ at hq
    by_cases h0:bA x.store w<0
    ·rw[if_pos h0]at hF hq
     simp(disch:=omega) only[↓pq,↓pj,ps,pz,↓reduceIte,af,ah,ai,aj,ak,ap,aq,au,av,vo,vp,vq,hi,hw,hF,h0,hq,hp,decide_true,Bool.true_or,cE]
     rfl
    ·have h1:0<=bA x.store w:=by omega
     rw[if_neg h0]at hF hq
     have pH:=OA (gt x.store (bA x.store w)).ae (gt x.store (bA x.store w)).kind (gt x.store (bA x.store w)).owner (gt x.store (bA x.store w)).key (gt x.store (bA x.store w)).seq (gt x.store (bA x.store w)).aX (gt x.store (bA x.store w)).cost (gt x.store (bA x.store w)).e_ w.ae w.kind w.owner w.key w.seq w.aX w.cost w.e_ (h5.gt h1 bC)
     rw[show(⟨(gt x.store (bA x.store w)).ae,(gt x.store (bA x.store w)).kind,(gt x.store (bA x.store w)).owner,(gt x.store (bA x.store w)).key,(gt x.store (bA x.store w)).seq,(gt x.store (bA x.store w)).aX,(gt x.store (bA x.store w)).cost,(gt x.store (bA x.store w)).e_⟩:ay)=gt x.store (bA x.store w) from rfl,show(⟨w.ae,w.kind,w.owner,w.key,w.seq,w.aX,w.cost,w.e_⟩:ay)=w from rfl]at pH
     simp only[aw,List.cons_append,List.nil_append]at hF
     cases j1:vy (gt x.store (bA x.store w)) w with
     |true=>
      rw[j1]at pH
      simp(disch:=omega) only[↓pq,↓pj,ps,pz,↓reduceIte,af,ah,ai,aj,ak,ap,aq,au,av,vo,vp,vq,hi,hw,hF,h0,pH,decide_false,Bool.false_or,Bool.not_true,cE]
     |false=>
      rw[j1]at pH
      simp(disch:=omega) only[↓pq,↓pj,ps,pz,↓reduceIte,af,ah,ai,aj,ak,ap,aq,au,av,vo,vp,vq,hi,hw,hF,h0,pH,hq,hp,decide_false,Bool.false_or,Bool.not_false,cE]
      rfl
  ·intro c q hc
   simp(disch:=omega) only[↓pq,↓pj,ps,pz,↓reduceIte,af,ah,ai,aj,ak,ap,aq,au,av,vo,vp,vq,]
   refine gO x.store (λi c=>[.l (c.map aw),ii i]) (s5 x W) (λl=>some (Dz x l)) c (λi c=>uN (25+i) c) rfl (c_ (by omega)) (hc.mono (by omega)) ?_ ?_
   ·intro i c hi hc
    have mi:=h5.gt (n:=i) (by omega) hi
    have sA:=Dd cn (iT (l:=x.store) (n:=(i:Int)) (by omega) hi)
    generalize hr:gt x.store (i:Int)=r at mi sA
    refine⟨?_,λq=>?_⟩
    ·unfold s5
     split
     ·exact hc.put (by show(gu r).aX.length<=_;rw[Q0];simp) (HZ cn iS r).1
     ·exact hc.mono (by omega)
    ·have tg:=hc.1.len
     have hk:=C9 W r.ae r.kind r.owner r.key (ii r.seq) (.l (r.aX.map eJ)) (ii r.cost) (bb r.e_) (by omega)
     rw[wM]at hk
     have hold:nQ x.store r=r.seq:=by
      obtain⟨j,hj,e⟩:∃j:Nat,j<x.store.length∧bA x.store r=j:=by
       have h0:0<=dJ (λy=>dS y r) x.store:=zH (hr▸iT (l:=x.store) (n:=(i:Int)) (by omega) hi) (Et r)
       have:=HX x.store r
       exact⟨(bA x.store r).toNat,by unfold bA at *;omega,by unfold bA at *;omega⟩
      have o4:dS (gt x.store (bA x.store r)) r=true:=q_ (λy=>dS y r) x.store (by unfold bA at e;omega)
      have hm:=iT (l:=x.store) (n:=bA x.store r) (by omega) (by omega)
      have hmr:r∈x.store:=hr▸iT (l:=x.store) (n:=(i:Int)) (by omega) hi
      have heq:gt x.store (bA x.store r)=r:=by
       generalize gt x.store (bA x.store r)=z at o4 hm
       have rN:=qR cn
       obtain⟨a,ha,rfl⟩:=List.mem_iff_getElem.1 hm
       obtain⟨b,hb,e2⟩:=List.mem_iff_getElem.1 hmr
       rcases Nat.lt_trichotomy a b with lu|lu|lu
       ·have:=List.pairwise_iff_getElem.1 rN a b ha hb lu
        rw[e2]at this
        rw[qK_ this]at o4;cases o4
       ·subst lu;exact e2
       ·have:=List.pairwise_iff_getElem.1 rN b a hb ha lu
        rw[e2]at this
        have h9:=Dx o4
        rw[qK_ this]at h9;cases h9
      unfold nQ
      rw[if_neg (by omega),heq]
     have hq:=adq (ii x.id) (ii x.net.n) (.l (x.net.aB.map cT)) (.l (x.net.aG.map dj)) (.l (x.heard.map aE)) (.l (x.store.map aw)) x r cn iS
     rw[hold]at hq
     have j3:=AC r.ae r.kind r.owner r.key r.seq r.aX r.cost r.e_ mi
     have hg:=auF r (auG sA)
     have pH:=OA (gu r).ae (gu r).kind (gu r).owner (gu r).key (gu r).seq (gu r).aX (gu r).cost (gu r).e_ r.ae r.kind r.owner r.key r.seq r.aX r.cost r.e_ (by rw[Q0];simp)
     have hp:=Jd c (gu r).ae (gu r).kind (gu r).owner (gu r).key (sY x r) (gu r).aX (gu r).cost (gu r).e_ (by omega) hc.1.aX (by rw[Q0];simp)
     rw[show(⟨(gu r).ae,(gu r).kind,(gu r).owner,(gu r).key,(gu r).seq,(gu r).aX,(gu r).cost,(gu r).e_⟩:ay)=gu r from rfl,show(⟨r.ae,r.kind,r.owner,r.key,r.seq,r.aX,r.cost,r.e_⟩:ay)=r from rfl]at pH
     unfold s5 sZ
     simp only[aw]at hg
     by_cases h0:r.owner=x.id
     ·rw[h0]at hk hg pH j3
      by_cases h1:bA W r<0
      ·have h2:¬bA W r>=0:=by omega
       cases j1:vy (gu r) r with
       |true=>
        rw[j1]at pH
        simp(disch:=omega) only[↓pq,↓pj,ps,pz,↓reduceIte,af,ah,ai,aj,ak,ap,aq,au,av,vo,vp,vq,hi,hr,h0,hk,h1,h2,j3,hg,pH,Bool.not_true,Bool.and_false,cE]
       |false=>
        rw[j1]at pH
        simp(disch:=omega) only[↓pq,↓pj,ps,pz,↓reduceIte,af,ah,ai,aj,ak,ap,aq,au,av,vo,vp,vq,hi,hr,h0,hk,h1,h2,j3,hg,pH,hq,hp,Bool.not_false,Bool.and_true,beq_self_eq_true,decide_true,cE]
        rfl
      ·have h2:bA W r>=0:=by omega
       simp(disch:=omega) only[↓pq,↓pj,ps,pz,↓reduceIte,af,ah,ai,aj,ak,ap,aq,au,av,vo,vp,vq,hi,hr,h0,hk,h1,h2,decide_false,Bool.false_and,Bool.and_false,cE]
     ·have e0:(r.owner==x.id)=false:=by simpa using h0
      simp(disch:=omega) only[↓pq,↓pj,ps,pz,↓reduceIte,af,ah,ai,aj,ak,ap,aq,au,av,vo,vp,vq,hi,hr,h0,e0,Bool.false_and,cE]
   ·intro l q kW
    have D6:=kW.1.len
    simp(disch:=omega) only[↓pq,↓pj,ps,pz,↓reduceIte,af,ah,ai,aj,ak,ap,aq,au,av,vo,vp,vq,]
    have hwz:eQ ia x.store l=eQ same x.store l:=ac7 (λr hr=>by unfold ia;rw[if_neg (by have:=kW.2 r hr;omega)];rfl) _
    have hwi:=Pq x.store l (by omega) h5 kW.1.aX
    rw[hwz]at hwi
    have hpf:Fit 325 (eQ same x.store l):=(Fit.lE (f:=same) (λr hr=>kW.1.aX r hr) hf).mono (by omega)
    unfold Dz
    generalize eQ same x.store l=P at hwi hpf
    have hPl:=hpf.len
    refine(sH l.length (λi=>[.l [],ii i]) (λi=>decide ((gt l (i:Int)).seq<=100000)) (fF:=some (ie x++[.l []])) (gV:=some (if P.length<=150 then ie {x with store:=P}++[.l (l.map aw)]else ie x++[.l []])) rfl (c_ (by omega)) ?_ ?_).trans ?_
    ·intro i hi s
     by_cases hq:(gt l (i:Int)).seq<=100000
     ·have j6:¬(gt l (i:Int)).seq>100000:=by omega
      simp(disch:=omega) only[↓pq,↓pj,ps,pz,↓reduceIte,af,ah,ai,aj,ak,ap,aq,au,av,vo,vp,vq,hi,hq,j6,decide_true]
     ·have j6:(gt l (i:Int)).seq>100000:=by omega
      simp(disch:=omega) only[↓pq,↓pj,ps,pz,↓reduceIte,af,ah,ai,aj,ak,ap,aq,au,av,vo,vp,vq,hi,hq,j6,hC,decide_false,cE]
      rfl
    ·intro s
     by_cases hq:P.length<=150
     ·have j6:¬(P.length:Int)>150:=by omega
      rw[if_pos hq]
      simp(disch:=omega) only[↓pq,↓pj,ps,pz,↓reduceIte,af,ah,ai,aj,ak,ap,aq,au,av,vo,vp,vq,hC,hwi,Ek P (by omega) hpf.aX,j6,Ek l (by omega) kW.1.aX]
      rfl
     ·have j6:(P.length:Int)>150:=by omega
      rw[if_neg hq]
      simp(disch:=omega) only[↓pq,↓pj,ps,pz,↓reduceIte,af,ah,ai,aj,ak,ap,aq,au,av,vo,vp,vq,hC,hwi,Ek P (by omega) hpf.aX,j6]
      rfl
    ·have e:ke l.length (λi=>decide ((gt l (i:Int)).seq<=100000))=l.all λr=>decide (r.seq<=100000):=by
      rw[Bool.eq_iff_iff,bW,List.all_eq_true]
      constructor
      ·intro h r hr
       obtain⟨i,hi,rfl⟩:=List.mem_iff_getElem.1 hr
       have:=h i hi
       rwa[eh hi]at this
      ·intro h i hi
       rw[eh hi]
       exact h _ (List.getElem_mem hi)
     rw[e]
     cases l.all λr=>decide (r.seq<=100000)with
     |false=>rw[if_neg (by decide),if_neg (by rintro⟨h,_⟩;cases h)]
     |true=>
      rw[if_pos rfl]
      by_cases hq:P.length<=150
      ·rw[if_pos hq,if_pos ⟨rfl,hq⟩]
      ·rw[if_neg hq,if_neg λh=>hq h.2]
theorem auM{r:ay}(h:eP (gZ r)=true){q:Int}(hq:1<=q∧q<=100000):eP {r with seq:=q}=true:=by
 unfold eP at h⊢
 simp only[gZ,bL,be]at h⊢
 exact⟨⟨h.1.1,hq⟩,h.2⟩
theorem auN{r:ay}(h:eP r=true):eP (gZ (gu r))=true:=by
 have hk:=Po h
 unfold eP at h⊢
 unfold gu
 simp only[bL,be]at h
 by_cases h1:r.kind=1
 ·have h2:=h.2
  rw[if_pos h1]at h2
  simp only[bL,be,decide_eq_true_eq,Bool.not_eq_true']at h2
  rw[if_pos h1]
  simp only[gZ,h1,if_true,bL,be,decide_eq_true_eq,Bool.not_eq_true']
  exact⟨⟨h.1.1,by omega⟩,⟨⟨⟨h2.1.1.1.1,h2.1.1.1.2⟩,by simp[tH,ke]⟩,h2.1.2⟩,h2.2⟩
 ·have h2:=h.2
  rw[if_neg h1]at h2
  rw[if_neg h1]
  simp only[gZ,h1,if_false,bL,be]
  refine⟨⟨h.1.1,by omega⟩,?_⟩
  by_cases h3:r.kind=2
  ·rw[if_pos h3]at h2⊢
   simp only[bL,be,decide_eq_true_eq,Bool.not_eq_true']at h2⊢
   exact⟨⟨⟨⟨h2.1.1.1.1,h2.1.1.1.2⟩,rfl⟩,by omega⟩,h2.2⟩
  ·rw[if_neg h3]at h2⊢
   by_cases h4:r.kind=3
   ·rw[if_pos h4]at h2⊢
    simp only[bL,Bool.or_eq_true,be,decide_eq_true_eq]at h2
    have q1:=h2.1.1.1
    have q2:=h2.1.1.2
    simp[q1,q2,be]
   ·rw[if_neg h4]at h2;cases h2
theorem auO{x:Self}(h:jf x=true)(S:List ay):∀w∈ng x S,eP (gZ w)=true:=by
 obtain⟨hN,hid,iS,jJ,uo,cn⟩:=mJ h
 obtain⟨n1,hl,ht,hA,hT⟩:=rM hN
 have jV:∀(l s:List ay),(∀r∈s,eP (gZ r)=true)->(∀r∈l,eP (gZ r)=true)->∀r∈eQ same s l,eP (gZ r)=true:=by
  intro l
  induction l with
  |nil=>intro s h1 _;exact h1
  |cons a l ih=>
   intro s h1 h2
   refine ih (cM s (same a)) (λr hr=>?_) λr hr=>h2 r (.tail _ hr)
   rcases wN hr with e|hr
   ·rw[e];exact h2 a (.head _)
   ·exact h1 r hr
 refine jV _ _ (by simp) λr hr=>?_
 rcases List.mem_append.1 hr with hr|hr
 ·rcases List.mem_append.1 hr with hr|hr
  ·rw[<-(zP hr).1];exact adp h hr
  ·unfold oM at hr
   split at hr
   ·obtain⟨a,ha,hr⟩:=List.mem_flatMap.1 hr
    exact(ac5 (by omega) (kR_ ha) hr).1
   ·cases hr
 ·obtain⟨t,jZ,rfl⟩:=List.mem_map.1 hr
  have h3:=HS hT (List.mem_filter.1 jZ).1
  unfold eP
  simp only[gZ,qy,bL,be]
  refine⟨⟨by omega,by omega⟩,?_⟩
  simp[be,h3]
theorem adu{x:Self}(h:jf x=true)(S:List ay)(hq:(qB x (ng x S)).all (λr=>decide (r.seq<=100000))=true):∀r∈qB x (ng x S),eP r=true:=by
 obtain⟨hN,hid,iS,jJ,uo,cn⟩:=mJ h
 have hw:=auO h S
 have key:∀r∈qB x (ng x S),∃b q,eP (gZ b)=true∧r={b with seq:=q}:=by
  have h1:∀(l c:List ay),(∀w∈l,eP (gZ w)=true)->(∀y∈c,∃b q,eP (gZ b)=true∧y={b with seq:=q})->∀y∈l.foldl (qA x) c,∃b q,eP (gZ b)=true∧y={b with seq:=q}:=by
   intro l
   induction l with
   |nil=>intro c _ h;exact h
   |cons a l ih=>
    intro c hl hc
    rw[List.foldl_cons]
    refine ih _ (λw hw=>hl w (.tail _ hw)) λy hy=>?_
    unfold qA at hy
    split at hy
    ·rcases wN hy with rfl|hy
     ·exact⟨a,_,hl a (.head _),rfl⟩
     ·exact hc y hy
    ·exact hc y hy
  have h2:∀(l c:List ay),(∀w∈l,eP w=true)->(∀y∈c,∃b q,eP (gZ b)=true∧y={b with seq:=q})->∀y∈l.foldl (s5 x (ng x S)) c,∃b q,eP (gZ b)=true∧y={b with seq:=q}:=by
   intro l
   induction l with
   |nil=>intro c _ h;exact h
   |cons a l ih=>
    intro c hl hc
    rw[List.foldl_cons]
    refine ih _ (λw hw=>hl w (.tail _ hw)) λy hy=>?_
    unfold s5 at hy
    split at hy
    ·rcases wN hy with rfl|hy
     ·exact⟨gu a,_,auN (hl a (.head _)),rfl⟩
     ·exact hc y hy
    ·exact hc y hy
  exact h2 _ _ (λw hw=>Dd cn hw) (h1 _ _ hw (by simp))
 intro r hr
 have hs:=auL cn iS (ng x S) r hr
 have nx:=List.all_eq_true.1 hq r hr
 rw[decide_eq_true_eq]at nx
 obtain⟨b,q,hb,rfl⟩:=key r hr
 exact auM hb ⟨hs,nx⟩
def uO(x:Net)(id aV:Int):Self:=⟨id,aV,x,[],[]⟩
def adv:Node:=⟨⟨0,0,⟨0,[],[]⟩,[],[]⟩,[]⟩
def wZ(x:Net)(id aV:Int):Node×Bool:=if jf (uO x id aV)=true then(⟨(jg (uO x id aV)).1,nM x.aB id x.n⟩,true)else(adv,false)
theorem auP(x:Net)(id aV:Int)(h1:x.aB.length<=1048576)(h2:x.aG.length<=1048576):
  X4 [ii x.n,.l (x.aB.map cT),.l (x.aG.map dj),ii id,ii aV]=some (jt (wZ x id aV).1++[bb (wZ x id aV).2]):=by
 have hS:=C7 id aV x.n x.aB x.aG [] [] h1 h2 (by simp) (by simp) (by intro r hr;cases hr)
 rw[show(⟨id,aV,⟨x.n,x.aB,x.aG⟩,[],[]⟩:Self)=uO x id aV from rfl]at hS
 have hR:=H2 (uO x id aV) h1 h2 (by simp[uO]) (by simp[uO]) (by intro r hr;cases hr)
 simp only[uO,List.map_nil]at hS hR
 rw[show(⟨id,aV,x,[],[]⟩:Self)=uO x id aV from rfl]at hS hR
 cases hk:jf (uO x id aV)with
 |false=>
  rw[hk]at hS
  rw[show wZ x id aV=(adv,false) from by unfold wZ;rw[if_neg (by rw[hk];decide)]]
  rw[abT];simp(disch:=omega) only[↓pq,↓pj,ps,pz,↓reduceIte,af,ah,ai,aj,ak,ap,aq,au,av,I2,I3,GH,hS,cE]
  rfl
 |true=>
  rw[hk]at hS
  obtain⟨hn,hl,ht,hA,hT⟩:=rM (show n7 x=true from(mJ hk).1)
  rw[show wZ x id aV=(⟨(jg (uO x id aV)).1,nM x.aB id x.n⟩,true) from by unfold wZ;rw[if_pos hk]]
  simp only[ie,List.cons_append,List.nil_append]at hR
  rw[abT];simp(disch:=omega) only[↓pq,↓pj,ps,pz,↓reduceIte,af,ah,ai,aj,ak,ap,aq,au,av,I2,I3,GH,hS]
  have iA:x.n<=6:=hn.2
  refine o6 x.n.toNat (λi c=>[ii (i+1),.l (c.map bG)]) (vz x.aB id) (λc=>some (jt ⟨(jg (uO x id aV)).1,c⟩++[bb true])) [] (λi c=>c.length<=3*i) rfl (c_ (by omega)) (by simp) ?_ ?_
  ·intro i c hi hc
   have qe:=Ha x.aB id c i
   refine⟨by omega,λs=>?_⟩
   have aU:(i:Int)+1<=x.n:=by omega
   simp(disch:=omega) only[↓pq,↓pj,ps,pz,↓reduceIte,af,ah,ai,aj,ak,ap,aq,au,av,I2,I3,aU]
   refine o6 3 (λa c=>[ii a,.l (c.map bG)]) (mI x.aB id i) (λc=>s [ii ((i+1:Nat)+1),T.l (c.map bG)]) c (λa c=>c.length<=3*i+a) rfl (by unfold rounds;omega) (by omega) ?_ ?_
   ·intro a c ha hc
    have Py:=QR x.aB id i c a
    refine⟨by omega,λs=>?_⟩
    have tI:(a:Int)<=2:=by omega
    have hz:=QQ hA id ((i:Int)+1) (a:Int)
    have hp:lg x.aB id ((i:Int)+1) (a:Int)>0↔0<=dJ (eE id ((i:Int)+1) (a:Int)) x.aB:=by
     constructor
     ·intro rC
      rcases Int.lt_or_le (dJ (eE id ((i:Int)+1) (a:Int)) x.aB) 0 with h|h
      ·have:=hz.2 h;omega
      ·exact h
     ·intro h0
      have h3:=xW hA (iT (l:=x.aB) h0 (o5 _ _))
      unfold lg
      rw[if_neg (by omega)];omega
    unfold mI
    by_cases h0:0<=dJ (eE id ((i:Int)+1) (a:Int)) x.aB
    ·rw[if_pos h0]
     have h4:=hp.2 h0
     simp(disch:=omega) only[↓pq,↓pj,ps,pz,↓reduceIte,af,ah,ai,aj,ak,ap,aq,au,av,I2,I3,tI,I_ _ _ _ _ _ _ h1,h4]
    ·rw[if_neg h0]
     have h4:¬lg x.aB id ((i:Int)+1) (a:Int)>0:=λrC=>h0 (hp.1 rC)
     simp(disch:=omega) only[↓pq,↓pj,ps,pz,↓reduceIte,af,ah,ai,aj,ak,ap,aq,au,av,I2,I3,tI,I_ _ _ _ _ _ _ h1,h4]
   ·intro c s' hc
    simp(disch:=omega) only[↓pq,↓pj,ps,pz,↓reduceIte,af,ah,ai,aj,ak,ap,aq,au,av,I2,I3,]
  ·intro c s hc
   have aU:¬((x.n.toNat:Int)+1<=x.n):=by omega
   simp(disch:=omega) only[↓pq,↓pj,ps,pz,↓reduceIte,af,ah,ai,aj,ak,ap,aq,au,av,I2,I3,aU,hR]
   rfl
def s6(r:ay):ay:=⟨r.ae,r.kind,r.owner,r.key,r.seq,[],if r.kind=3 then 1 else 0,false⟩
def xY(s:List ay)(ar:Int):List ay:=(scope s ar).map s6
theorem auQ{α β:Type}(f:α->β)(l:List α)(c:List β):l.foldl (λc a=>c++[f a]) c=c++l.map f:=by
 induction l generalizing c with
 |nil=>simp
 |cons a l ih=>rw[List.foldl_cons,ih];simp
theorem adw(a k o y s:Int)(t5 t6 t7:T):Mb [ii a,ii k,ii o,ii y,ii s,t5,t6,t7]=some [ii a,ii k,ii o,ii y,ii s,.l [],ii (if k=3 then 1 else 0),bb false]:=by
 rw[aqR]
 by_cases h:k=3
 ·subst h;simp(disch:=omega) only[↓pq,↓pj,ps,pz,↓reduceIte,af,ah,ai,aj,ak,ap,aq,au,av,GQ]
 ·simp(disch:=omega) only[↓pq,↓pj,ps,pz,↓reduceIte,af,ah,ai,aj,ak,ap,aq,au,av,GQ,h]
theorem adx(s:List ay)(ar:Int)(h:s.length<=1048576)(hn:aQ s):IW [.l (s.map aw),ii ar]=some [.l ((xY s ar).map aw)]:=by
 have hl:(scope s ar).length<=s.length:=List.length_filter_le _ _
 rw[arQ];simp(disch:=omega) only[↓pq,↓pj,ps,pz,↓reduceIte,af,ah,ai,aj,ak,ap,aq,au,av,km_,Oe,C8 s ar h hn]
 unfold xY
 generalize scope s ar=l at hl
 refine(gO l (λi c=>[.l (c.map aw),ii i,.l (l.map aw)]) (λc r=>c++[s6 r]) (λc=>some [T.l (c.map aw)]) [] (λi c=>c.length<=i) rfl (c_ (by omega)) (by simp) ?_ ?_).trans (by rw[auQ,List.nil_append])
 ·intro i c hi hc
  refine⟨by simp;omega,λq=>?_⟩
  have nE:Prim.ev (.lit 8 [true,true,true,true,true,false,true,true]) [ii (gt l (i:Int)).ae,ii (gt l (i:Int)).kind,ii (gt l (i:Int)).owner,ii (gt l (i:Int)).key,ii (gt l (i:Int)).seq,.l [],ii (if(gt l (i:Int)).kind=3 then 1 else 0),bb false]=some (.l ([s6 (gt l (i:Int))].map aw)):=qp (by decide) rfl rfl
  simp(disch:=omega) only[↓pq,↓pj,ps,pz,↓reduceIte,af,ah,ai,aj,ak,ap,aq,au,av,km_,hi,adw,nE]
 ·intro c q hc
  simp(disch:=omega) only[↓pq,↓pj,ps,pz,↓reduceIte,af,ah,ai,aj,ak,ap,aq,au,av,km_,]
theorem ady(x:Self)(es:List cO)(h1:x.net.aB.length<=1048576)(h2:x.net.aG.length<=1048576)(h3:x.heard.length<=1048576)(h4:x.store.length<=1048576)(h5:aQ x.store)(h6:es.length<=1048576):
  Ma [ii x.id,ii x.aV,ii x.net.n,.l (x.net.aB.map cT),.l (x.net.aG.map dj),.l (x.heard.map aE),.l (x.store.map aw),.l (es.map bG)]=some [ii x.id,ii x.aV,ii x.net.n,.l (x.net.aB.map cT),.l (x.net.aG.map dj),.l (x.heard.map aE),.l (x.store.map aw),.l (es.map bG)]:=by
 have hc:=adt x h1 h2 h3 h4 h5
 simp only[ie]at hc
 rw[aqL];simp(disch:=omega) only[↓pq,↓pj,ps,pz,↓reduceIte,af,ah,ai,aj,ak,ap,aq,au,av,NJ,hc]
def l9(e:cO):cO:=⟨e.node,e.ae,if 0>e.left-1 then 0 else e.left-1,e.both&&decide ((if 0>e.left-1 then 0 else e.left-1)>0)⟩
def zQ(es:List cO)(a:Int):List Int:=es.foldl (λc f=>if f.ae=a then(if f.left>0 then gq c f.node else c)else c) []
def pI(x:Self)(es:List cO)(e:cO):List bd:=⟨1,x.id,e.node,e.ae,zQ es e.ae,[]⟩::if e.both=true then [⟨2,x.id,e.node,e.ae,[],xY x.store e.ae⟩]else []
def qT(n:Node):Node:=⟨(jg {n.self with heard:=iK (n.cq.map l9)}).1,n.cq.map l9⟩
def uP(n:Node):Node×List bd:=if j5 n=true then(qT n,(qT n).cq.flatMap (pI (qT n).self (qT n).cq))else(n,[])
theorem auR(c:List Int)(n:Int)(hc:c.Pairwise (· < ·))(hl:c.length<=200)(k:List T->Option (List T)):iter (sR sL (.l (c.map aE)) (ii n) k) rounds [ii 0]=k [.l ((gq c n).map aE)]:=by
 have hle:=Db c n
 obtain⟨c1,c2,c3⟩:=OL hc n
 refine C' (λk=>[ii k]) (ei c n) rfl (c_ (by omega)) (λi hi w=>?_) λw=>?_
 ·have fV:(i:Int)<c.length:=by omega
  have dh:gt c (i:Int)<n:=by rw[eh (by omega)];exact(c3 i (by omega)).2 (by omega)
  simp(disch:=omega) only[↓pq,↓pj,ps,pz,↓reduceIte,af,ah,ai,aj,ak,ap,aq,au,av,sR,tF,sS,tG,fV,dh]
 ·by_cases bC:ei c n<c.length
  ·have fV:((ei c n:Nat):Int)<c.length:=by omega
   have dh:¬(gt c ((ei c n:Nat):Int)<n):=by rw[eh bC];intro rC;have:=(c3 _ bC).1 rC;omega
   have jj:=Hq hc bC
   by_cases jH:n∈c
   ·rw[Hp hc jH]
    have o9:=jj.2 jH
    simp(disch:=omega) only[↓pq,↓pj,ps,pz,↓reduceIte,af,ah,ai,aj,ak,ap,aq,au,av,sR,tF,sS,tG,fV,dh,o9]
   ·rw[Jf hc jH]
    have o9:¬(gt c ((ei c n:Nat):Int)=n):=λe=>jH (jj.1 e)
    simp(disch:=omega) only[↓pq,↓pj,ps,pz,↓reduceIte,af,ah,ai,aj,ak,ap,aq,au,av,sR,tF,sS,tG,fV,dh,o9,re _ (show(c.take (ei c n)).length<=1048576 by simp;omega)]
    rw[B6 (by simp;omega),gN,y7 (by simp;omega),gN,List.append_assoc]
  ·have fV:¬(((ei c n:Nat):Int)<c.length):=by omega
   rw[Jf hc (Hr hc bC)]
   simp(disch:=omega) only[↓pq,↓pj,ps,pz,↓reduceIte,af,ah,ai,aj,ak,ap,aq,au,av,sR,tF,sS,tG,fV,re _ (show(c.take (ei c n)).length<=1048576 by simp;omega)]
   rw[B6 (by simp;omega),gN,y7 (by simp;omega),gN,List.append_assoc]
theorem H3{x:Self}(h:x.store.length<=1048576)(hn:aQ x.store)(hh:x.heard.length<=1048576):(jg x).1.store.length<=1048576∧aQ (jg x).1.store∧(jg x).1.net=x.net∧(jg x).1.heard=x.heard∧(jg x).1.id=x.id∧(jg x).1.aV=x.aV:=by
 unfold jg
 by_cases hk:jf x=true
 ·rw[if_pos hk]
  obtain⟨hN,hid,iS,jJ,uo,cn⟩:=mJ hk
  obtain⟨n1,hl,ht,hA,hT⟩:=rM hN
  unfold vD
  split
  ·rename_i hc
   have hNf:=Pw (x:=x) (H0 (x:=x) (qS x.store x.id (fO x)) ht hh) (Jm cn hn).len
   have f:=Fit.lE (f:=same) (l:=qB x (ng x (qS x.store x.id (fO x)))) (λr hr=>hNf.aX r hr) (Jm cn hn)
   exact⟨by have:=hc.2;show(eQ same x.store _).length<=_;omega,f.aX,rfl,rfl,rfl,rfl⟩
  ·exact⟨h,hn,rfl,rfl,rfl,rfl⟩
 ·rw[if_neg hk]
  exact⟨h,hn,rfl,rfl,rfl,rfl⟩
theorem vE{n:Node}(h:j5 n=true):jf n.self=true∧n.cq.length=(nM n.self.net.aB n.self.id n.self.net.n).length∧n.cq.length<=18:=by
 unfold j5 AB at h
 simp only[bL,decide_eq_true_eq]at h
 have hN:=rM (mJ h.1).1
 have:=Hb n.self.net.aB n.self.id n.self.net.n (by omega)
 exact⟨h.1,by omega,by omega⟩
def uQ(es:List cO)(i:Nat):List cO:=(es.take i).map l9++es.drop i
theorem adz(es:List cO)(i:Nat):(uQ es i).length=es.length:=by unfold uQ;simp;omega
theorem auS{es:List cO}{i:Nat}(h:i<es.length):gt (uQ es i) (i:Int)=gt es (i:Int):=by
 rw[eh (l:=uQ es i) (by rw[adz];exact h),eh h]
 unfold uQ
 rw[List.getElem_append_right (by simp;omega)]
 simp[Nat.min_eq_left (Nat.le_of_lt h)]
theorem auT{es:List cO}{i:Nat}(h:i<es.length):(uQ es i).set i (l9 (gt es (i:Int)))=uQ es (i+1):=by
 have hl:((es.take i).map l9).length=i:=by rw[List.length_map,List.length_take];omega
 unfold uQ
 rw[eh h,List.set_append_right _ _ (by omega),hl,Nat.sub_self,List.drop_eq_getElem_cons h,List.set_cons_zero,List.take_add_one,List.getElem?_eq_getElem h]
 simp only[Option.toList,List.map_append,List.map_cons,List.map_nil,List.append_assoc,List.cons_append,List.nil_append]
theorem auU{n:Node}(h:j5 n=true){i:Nat}(hi:i<n.cq.length):0<=(gt n.cq (i:Int)).left∧(gt n.cq (i:Int)).left<=3:=by
 unfold j5 AB at h
 simp only[bL,decide_eq_true_eq]at h
 have:=bW.1 h.2.1.2 i hi
 unfold zn at this
 simp only[bL,be]at this
 omega
theorem auV(es:List cO)(a:Int){i:Nat}:(zQ (es.take i) a).Pairwise (· < ·)∧(zQ (es.take i) a).length<=i:=by
 have:∀(l:List cO) (c:List Int) (k:Nat),c.Pairwise (· < ·)->c.length<=k->(l.foldl (λc f=>if f.ae=a then(if f.left>0 then gq c f.node else c)else c) c).Pairwise (· < ·)∧(l.foldl (λc f=>if f.ae=a then(if f.left>0 then gq c f.node else c)else c) c).length<=k+l.length:=by
  intro l
  induction l with
  |nil=>intro c k h1 h2;exact⟨h1,by simpa using h2⟩
  |cons e l ih=>
   intro c k h1 h2
   rw[List.foldl_cons,List.length_cons]
   split
   ·split
    ·have:=ih (gq c e.node) (k+1) (Ho h1 _) (by have:=Ht c e.node;omega)
     exact⟨this.1,by omega⟩
    ·have:=ih c k h1 h2
     exact⟨this.1,by omega⟩
   ·have:=ih c k h1 h2
    exact⟨this.1,by omega⟩
 have:=this (es.take i) [] 0 .nil (by simp)
 refine⟨this.1,?_⟩
 unfold zQ
 have h2:=this.2
 simp only[List.length_take]at h2
 omega
set_option maxHeartbeats 1000000 in
theorem auW(y:Self)(es:List cO)(h2:es.length<=18)(h4:y.store.length<=1048576)(h5:aQ y.store)(t0 t1 t2:T):
  iter (sS rounds IW Ed sL (ii (es.length:Int))) rounds [.l [],ii 0,ii y.id,ii y.aV,ii y.net.n,.l (y.net.aB.map cT),.l (y.net.aG.map dj),.l (y.heard.map aE),.l (y.store.map aw),.l (es.map bG),t0,t1,t2,.l (es.map bG)]
   =some [ii y.id,ii y.aV,ii y.net.n,.l (y.net.aB.map cT),.l (y.net.aG.map dj),.l (y.heard.map aE),.l (y.store.map aw),.l (es.map bG),.l ((es.flatMap (pI y es)).map ej)]:=by
 refine(gO es (λi c=>[.l (c.map ej),ii i,ii y.id,ii y.aV,ii y.net.n,.l (y.net.aB.map cT),.l (y.net.aG.map dj),.l (y.heard.map aE),.l (y.store.map aw),.l (es.map bG),t0,t1,t2,.l (es.map bG)]) (λc e=>c++pI y es e)
  (λc=>some [ii y.id,ii y.aV,ii y.net.n,.l (y.net.aB.map cT),.l (y.net.aG.map dj),.l (y.heard.map aE),.l (y.store.map aw),.l (es.map bG),.l (c.map ej)]) [] (λi c=>c.length<=2*i) rfl (c_ (by omega)) (by simp) ?_ ?_).trans (by rw[QW,List.nil_append])
 ·intro i c hi hc
  have oX:(pI y es (gt es (i:Int))).length<=2:=by unfold pI;split<;>simp
  refine⟨by rw[List.length_append];omega,λq=>?_⟩
  simp(disch:=omega) only[↓pq,↓pj,ps,pz,↓reduceIte,af,ah,ai,aj,ak,ap,aq,au,av,sR,tF,sS,tG,hi]
  refine gO es (λj d=>[.l (d.map aE),ii j]) (λd f=>if f.ae=(gt es (i:Int)).ae then(if f.left>0 then gq d f.node else d)else d) (λd=>q [.l ((c++(⟨1,y.id,(gt es (i:Int)).node,(gt es (i:Int)).ae,d,[]⟩::if(gt es (i:Int)).both=true then [(⟨2,y.id,(gt es (i:Int)).node,(gt es (i:Int)).ae,[],xY y.store (gt es (i:Int)).ae⟩:bd)]else [])).map ej),ii ((i:Int)+1),ii y.id,ii y.aV,ii y.net.n,.l (y.net.aB.map cT),.l (y.net.aG.map dj),.l (y.heard.map aE),.l (y.store.map aw),.l (es.map bG),t0,t1,t2,.l (es.map bG)]) [] (λj d=>d.Pairwise (· < ·)∧d.length<=j) rfl (c_ (by omega)) ⟨.nil,by simp⟩ ?_ ?_
  ·intro j d hj hd
   have oR:=hd.2
   have hil:=Ht d (gt es (j:Int)).node
   refine⟨?_,λw=>?_⟩
   ·split
    ·split
     ·exact⟨Ho hd.1 _,by omega⟩
     ·exact⟨hd.1,by omega⟩
    ·exact⟨hd.1,by omega⟩
   ·have Ln:=λk=>auR d (gt es (j:Int)).node hd.1 (by omega) k
    by_cases k1:(gt es (j:Int)).ae=(gt es (i:Int)).ae
    ·by_cases k2:(gt es (j:Int)).left>0
     ·simp(disch:=omega) only[↓pq,↓pj,ps,pz,↓reduceIte,af,ah,ai,aj,ak,ap,aq,au,av,sR,tF,sS,tG,hj,k1,k2,Ln]
     ·simp(disch:=omega) only[↓pq,↓pj,ps,pz,↓reduceIte,af,ah,ai,aj,ak,ap,aq,au,av,sR,tF,sS,tG,hj,k1,k2]
    ·simp(disch:=omega) only[↓pq,↓pj,ps,pz,↓reduceIte,af,ah,ai,aj,ak,ap,aq,au,av,sR,tF,sS,tG,hj,k1]
  ·intro d w hd
   have nE:=Lv 1 y.id (gt es (i:Int)).node (gt es (i:Int)).ae d []
   rw[List.map_nil]at nE
   have nD:Prim.ev (.app false 6) [.l (c.map ej),.l ([(⟨1,y.id,(gt es (i:Int)).node,(gt es (i:Int)).ae,d,[]⟩:bd)].map ej)]=some (.l ((c++[(⟨1,y.id,(gt es (i:Int)).node,(gt es (i:Int)).ae,d,[]⟩:bd)]).map ej)):=Lu (by simp;omega)
   have Jp:=Lv 2 y.id (gt es (i:Int)).node (gt es (i:Int)).ae [] (xY y.store (gt es (i:Int)).ae)
   rw[List.map_nil]at Jp
   have adA:Prim.ev (.app false 6) [.l ((c++[(⟨1,y.id,(gt es (i:Int)).node,(gt es (i:Int)).ae,d,[]⟩:bd)]).map ej),.l ([(⟨2,y.id,(gt es (i:Int)).node,(gt es (i:Int)).ae,[],xY y.store (gt es (i:Int)).ae⟩:bd)].map ej)]=some (.l ((c++[(⟨1,y.id,(gt es (i:Int)).node,(gt es (i:Int)).ae,d,[]⟩:bd)]++[(⟨2,y.id,(gt es (i:Int)).node,(gt es (i:Int)).ae,[],xY y.store (gt es (i:Int)).ae⟩:bd)]).map ej)):=Lu (by simp;omega)
   have adB:=λ(k a b t:Int) (bo:Bool) (th tl:T)=>(show Ed [ii y.id,ii y.aV,ii y.net.n,.l (y.net.aB.map cT),.l (y.net.aG.map dj),.l (y.heard.map aE),.l (y.store.map aw),.l (es.map bG),ii k,ii a,ii b,ii t,bb bo,th,tl]=some [ii k,ii y.id,ii a,ii b,th,tl,ii y.id,ii y.aV,ii y.net.n,.l (y.net.aB.map cT),.l (y.net.aG.map dj),.l (y.heard.map aE),.l (y.store.map aw),.l (es.map bG)] from by rw[I8];simp(disch:=omega) only[↓pq,↓pj,ps,pz,↓reduceIte,af,ah,ai,aj,ak,ap,aq,au,av,sR,tF,sS,tG,Eh])
   have hhd:=adx y.store (gt es (i:Int)).ae h4 h5
   cases iS:(gt es (i:Int)).both with
   |true=>
    rw[iS]at*
    simp(disch:=omega) only[↓pq,↓pj,ps,pz,↓reduceIte,af,ah,ai,aj,ak,ap,aq,au,av,sR,tF,sS,tG,adB,nE,nD,hhd,Jp,adA,iS]
    simp only[if_true,List.append_assoc,List.cons_append,List.nil_append]
   |false=>
    simp(disch:=omega) only[↓pq,↓pj,ps,pz,↓reduceIte,af,ah,ai,aj,ak,ap,aq,au,av,sR,tF,sS,tG,adB,nE,nD,iS,cE]
 ·intro c q hc
  simp(disch:=omega) only[↓pq,↓pj,ps,pz,↓reduceIte,af,ah,ai,aj,ak,ap,aq,au,av,sR,tF,sS,tG,]
theorem auX(n:Node)(h1:n.self.net.aB.length<=1048576)(h2:n.self.net.aG.length<=1048576)(h3:n.self.heard.length<=1048576)(h4:n.self.store.length<=1048576)(h5:aQ n.self.store)(h6:n.cq.length<=1048576):
  jR_ (jt n)=some (jt (uP n).1++[.l ((uP n).2.map ej)]):=by
 obtain⟨x,es⟩:=n
 simp only at h1 h2 h3 h4 h5 h6
 simp only[jt]
 have j3:=ady x es h1 h2 h3 h4 h5 h6
 have cV:=OG x.id x.aV x.net.n x.net.aB x.net.aG x.heard x.store es h1 h2 h3 h4 h5 h6
 rw[show(⟨⟨x.id,x.aV,⟨x.net.n,x.net.aB,x.net.aG⟩,x.heard,x.store⟩,es⟩:Node)=⟨x,es⟩ from rfl]at cV
 rw[ar0]
 cases hk:j5 ⟨x,es⟩with
 |false=>
  rw[hk]at cV
  unfold uP
  rw[if_neg (by rw[hk];decide)]
  simp(disch:=omega) only[↓pq,↓pj,ps,pz,↓reduceIte,af,ah,ai,aj,ak,ap,aq,au,av,sR,tF,sS,tG,G4,j3,cV,cE]
  rfl
 |true=>
  rw[hk]at cV
  obtain⟨hs,_,vk⟩:=vE hk
  simp only at hs vk
  unfold uP
  rw[if_pos hk]
  unfold qT
  simp only
  have sy:=OC (es.map l9)
  have hml:(es.map l9).length=es.length:=List.length_map ..
  obtain⟨y1,y2,y3,y4,y5,y6⟩:=H3 (x:={x with heard:=iK (es.map l9)}) h4 h5 (by show(iK (es.map l9)).length<=_;omega)
  have hR:=Px {x with heard:=iK (es.map l9)} h1 h2 (by show(iK (es.map l9)).length<=_;omega) h4 h5
  have hH:=OD (es.map l9) (by omega)
  generalize jg {x with heard:=iK (es.map l9)}=p at hR y1 y2 y3 y4 y5 y6
  obtain⟨y,l⟩:=p
  simp only[ie,List.cons_append,List.nil_append]at hR y1 y2
  have lp:=auW y (es.map l9) (by omega) y1 y2 (.l ((es.map l9).map bG)) (.l ((es.map l9).map bG)) (.l ((es.map l9).map bG))
  rw[hml]at lp
  simp(disch:=omega) only[↓pq,↓pj,ps,pz,↓reduceIte,af,ah,ai,aj,ak,ap,aq,au,av,sR,tF,sS,tG,G4,j3,cV]
  refine C' (λi=>[ii (i:Int),.l ((uQ es i).map bG)]) es.length rfl (c_ (by omega)) ?_ ?_
  ·intro i hi q
   have aU:i<es.length:=by omega
   have hL:=adz es i
   have g0:=auS aU
   have hlf:0<=(gt es (i:Int)).left∧(gt es (i:Int)).left<=3:=auU hk aU
   obtain⟨v,hv⟩:∃v,v=(if(0:Int)>(gt es (i:Int)).left-1 then 0 else(gt es (i:Int)).left-1):=⟨_,rfl⟩
   have p1:Prim.ev (.put true 4 2 1) [.l ((uQ es i).map bG),ii (i:Int),ii v]=some (.l (((uQ es i).set i ⟨(gt es (i:Int)).node,(gt es (i:Int)).ae,v,(gt es (i:Int)).both⟩).map bG)):=by
    have:=AD (enc:=bG) (sc:=true) (w:=4) (off:=2) (m:=1) (l:=uQ es i) (n:=(i:Int)) (vs:=[ii v]) (x:=⟨(gt es (i:Int)).node,(gt es (i:Int)).ae,v,(gt es (i:Int)).both⟩) (by omega) (by omega) (λ_=>rfl) (by decide) rfl rfl (by rw[g0];rfl)
    rw[Int.toNat_natCast]at this
    exact this
   have qX:=auT aU
   generalize hA:uQ es i=A at*
   have xp:gt (A.set i ⟨(gt es (i:Int)).node,(gt es (i:Int)).ae,v,(gt es (i:Int)).both⟩) (i:Int)=⟨(gt es (i:Int)).node,(gt es (i:Int)).ae,v,(gt es (i:Int)).both⟩:=by
    have:=zr (l:=A) (i:=(i:Int)) (j:=(i:Int)) (x:=⟨(gt es (i:Int)).node,(gt es (i:Int)).ae,v,(gt es (i:Int)).both⟩) (by omega) (by omega) (by omega)
    rw[if_pos rfl,Int.toNat_natCast]at this
    exact this
   have hB:(A.set i ⟨(gt es (i:Int)).node,(gt es (i:Int)).ae,v,(gt es (i:Int)).both⟩).length=A.length:=List.length_set ..
   have Py:(gt (A.set i ⟨(gt es (i:Int)).node,(gt es (i:Int)).ae,v,(gt es (i:Int)).both⟩) (i:Int)).left=v:=by rw[xp]
   have p2:∀b:Bool,Prim.ev (.put true 4 3 1) [.l ((A.set i ⟨(gt es (i:Int)).node,(gt es (i:Int)).ae,v,(gt es (i:Int)).both⟩).map bG),ii (i:Int),bb b]=some (.l ((A.set i ⟨(gt es (i:Int)).node,(gt es (i:Int)).ae,v,b⟩).map bG)):=by
    intro b
    have:=AD (enc:=bG) (sc:=true) (w:=4) (off:=3) (m:=1) (l:=A.set i ⟨(gt es (i:Int)).node,(gt es (i:Int)).ae,v,(gt es (i:Int)).both⟩) (n:=(i:Int)) (vs:=[bb b]) (x:=⟨(gt es (i:Int)).node,(gt es (i:Int)).ae,v,b⟩) (by omega) (by omega) (λ_=>rfl) (by decide) rfl rfl (by rw[xp];rfl)
    rw[Int.toNat_natCast,List.set_set]at this
    exact this
   have ht:l9 (gt es (i:Int))=⟨(gt es (i:Int)).node,(gt es (i:Int)).ae,v,(gt es (i:Int)).both&&decide (v>0)⟩:=by unfold l9;rw[<-hv]
   rw[ht]at qX
   have e1:(i:Int)<A.length:=by omega
   have e2:(i:Int)<(A.set i ⟨(gt es (i:Int)).node,(gt es (i:Int)).ae,v,(gt es (i:Int)).both⟩:List cO).length:=by omega
   cases K3:(gt es (i:Int)).both with
   |true=>
    have QT:(gt (A.set i ⟨(gt es (i:Int)).node,(gt es (i:Int)).ae,v,(gt es (i:Int)).both⟩) (i:Int)).both=true:=by rw[xp];exact K3
    have DA:A.set i ⟨(gt es (i:Int)).node,(gt es (i:Int)).ae,v,decide (v>0)⟩=uQ es (i+1):=by rw[<-qX,K3,Bool.true_and]
    have p2':=p2 (decide (v>0))
    rw[DA]at p2'
    simp(disch:=omega) only[↓pq,↓pj,ps,pz,↓reduceIte,af,ah,ai,aj,ak,ap,aq,au,av,sR,tF,sS,tG,hi,e1,g0,<-hv,p1,e2,QT,Py,p2']
   |false=>
    have QT:(gt (A.set i ⟨(gt es (i:Int)).node,(gt es (i:Int)).ae,v,(gt es (i:Int)).both⟩) (i:Int)).both=false:=by rw[xp];exact K3
    have DA:A.set i ⟨(gt es (i:Int)).node,(gt es (i:Int)).ae,v,false⟩=uQ es (i+1):=by rw[<-qX,K3,Bool.false_and]
    have p2':=p2 false
    rw[DA]at p2'
    simp(disch:=omega) only[↓pq,↓pj,ps,pz,↓reduceIte,af,ah,ai,aj,ak,ap,aq,au,av,sR,tF,sS,tG,hi,e1,g0,<-hv,p1,e2,QT,p2',cE]
  ·intro q
   have hz:¬((es.length:Int)<es.length):=by omega
   have hE:uQ es es.length=es.map l9:=by unfold uQ;simp
   have vF:Prim.ev .len [.l ((es.map l9).map bG)]=some (ii (es.length:Int)):=by rw[B3,hml]
   simp(disch:=omega) only[↓pq,↓pj,ps,pz,↓reduceIte,af,ah,ai,aj,ak,ap,aq,au,av,sR,tF,sS,tG,hz,hE,hH,hR,vF]
   exact lp
abbrev u8(n:Int):T:=.c (.int .u8 n)
def gm(n:Int):List T:=[u8 n]
def Pz:List Ty:=[.i .u8]
def rO(n:Int):Prop:=0<=n∧n<=255
theorem auY(r:List T)(h:je Pz r):∃n,r=gm n∧rO n:=by
 obtain⟨_,_,rfl,⟨n,rfl,hn⟩,rfl⟩:=K4 h
 refine⟨n,rfl,?_⟩
 simp[Lit.wf,IntKind.min,IntKind.max,IntKind.signed,IntKind.bits]at hn
 unfold rO;omega
theorem adD{l:List Int}{n:Int}(h:0<=n)(h':n<l.length):Prim.ev (.cell 1 0) [.l (l.map gm),ii n]=some (u8 (gt l n)):=iU h (dV h h') rfl rfl
theorem adE{n:Int}(h:0<=n)(h':n<=255):Prim.ev (.Qc .i64) [u8 n]=some (ii n):=by
 simp only[Prim.ev,yS (n:=n) (by omega) (by omega)]
theorem adF(a:Int):∃x,Prim.ev (.bin .and) [ii a,ii 255]=some (ii x)∧0<=x∧x<=255:=by
 have h:(BitVec.ofInt 64 a&&&BitVec.ofInt 64 255).toNat<=255:=by
  rw[BitVec.toNat_and]
  exact Nat.le_trans Nat.and_le_right (by decide)
 refine⟨((BitVec.ofInt 64 a&&&BitVec.ofInt 64 255).toNat:Nat),?_,by omega,by omega⟩
 simp only[Prim.ev,T.val,jS,Option.bind_some,if_true]
 show some (ii (IntKind.i64.wrap (((BitVec.ofInt 64 a&&&BitVec.ofInt 64 255).toNat:Nat):Int)))=_
 rw[yS (by omega) (by omega)]
theorem auZ(a b:Int):∃x,Prim.ev (.bin .and) [ii a,ii b]=some (ii x):=⟨_,by simp only[Prim.ev,T.val,jS,Option.bind_some,if_true];rfl⟩
theorem au0(a b:Int):∃x,Prim.ev (.bin .xor) [ii a,ii b]=some (ii x):=⟨_,by simp only[Prim.ev,T.val,jS,Option.bind_some,if_true];rfl⟩
theorem au1(a:Int):∃x,Prim.ev (.bin .shr) [ii a,.c (.int .u64 33)]=some (ii x):=⟨_,by simp only[Prim.ev,T.val,jS,Option.bind_some];rfl⟩
theorem au2(a:Int):∃x,Prim.ev (.bin .shr) [ii a,.c (.int .u64 45)]=some (ii x):=⟨_,by simp only[Prim.ev,T.val,jS,Option.bind_some];rfl⟩
theorem H4{B:List Int}(hB:∀x∈B,rO x)(hl:B.length<=1048576){i:Int}(h:Int)(hi:0<=i)(aU:i<=B.length):
  ∃x i' h',VF [.l (B.map gm),ii i,ii h]=some [ii x,.l (B.map gm),ii i',ii h']∧(0<=x∧x<=255)∧0<=i'∧i'<=B.length:=by
 rw[an1]
 obtain⟨m,hm⟩:∃m,Prim.ev (.bin .mul) [ii h,ii 6364136223846793005]=some (ii m):=⟨_,K6 _ _ _⟩
 obtain⟨g,hg⟩:∃g,Prim.ev (.bin .add) [ii m,ii 1442695040888963407]=some (ii g):=⟨_,uu _ _ _⟩
 obtain⟨s1,h1⟩:=au1 g
 obtain⟨s2,h2⟩:=au2 g
 obtain⟨x0,h3⟩:=au0 s1 s2
 obtain⟨x1,h4,r1,r2⟩:=adF x0
 have hn:Prim.ev .len [.l (B.map gm)]=some (ii B.length):=B3
 by_cases hc:i<B.length
 ·have hx:=hB _ (iT hi hc)
  obtain⟨x2,h5,r3,r4⟩:=adF (x1+gt B i)
  have hb:=F0 (enc:=gm) hi hc
  refine⟨x2,i+1,g,?_,⟨r3,r4⟩,by omega,by omega⟩
  have w1:=hx.1
  have w2:=hx.2
  simp(disch:=omega) only[↓pq,↓pj,ps,pz,↓reduceIte,af,ah,ai,aj,ak,ap,aq,au,av,Gr,hm,hg,h1,h2,h3,h4,hn,hc,hb,adD hi hc,adE w1 w2,h5]
 ·refine⟨x1,i,g,?_,⟨r1,r2⟩,hi,aU⟩
  simp(disch:=omega) only[↓pq,↓pj,ps,pz,↓reduceIte,af,ah,ai,aj,ak,ap,aq,au,av,Gr,hm,hg,h1,h2,h3,h4,hn,hc]
theorem my{B:List Int}(hB:∀x∈B,rO x)(hl:B.length<=1048576){i:Int}(h:Int)(hi:0<=i)(aU:i<=B.length)(n:Int)(hn:1<=n)(iA:n<=4294967296):
  ∃x i' h',n4 [.l (B.map gm),ii i,ii h,ii n]=some [ii x,.l (B.map gm),ii i',ii h']∧(0<=x∧x<n)∧0<=i'∧i'<=B.length:=by
 rw[an3]
 have h0:¬n<=0:=by omega
 obtain⟨x,i1,h1,e1,r1,p1,p2⟩:=H4 hB hl h hi aU
 have hz:n≠0:=by omega
 by_cases hc:n<=256
 ·refine⟨x.tmod n,i1,h1,?_,⟨Int.tmod_nonneg _ r1.1,Int.tmod_lt_of_pos _ (by omega)⟩,p1,p2⟩
  simp(disch:=omega) only[↓pq,↓pj,ps,pz,↓reduceIte,af,ah,ai,aj,ak,ap,aq,au,av,Gs,h0,hc,e1,hz]
 ·obtain⟨y,i2,h2,e2,r2,p3,p4⟩:=H4 hB hl h1 p1 p2
  obtain⟨z,i3,h3,e3,r3,p5,p6⟩:=H4 hB hl h2 p3 p4
  obtain⟨w,i4,h4,e4,r4,p7,p8⟩:=H4 hB hl h3 p5 p6
  refine⟨(x*16777216+y*65536+z*256+w).tmod n,i4,h4,?_,⟨Int.tmod_nonneg _ (by omega),Int.tmod_lt_of_pos _ (by omega)⟩,p7,p8⟩
  simp(disch:=omega) only[↓pq,↓pj,ps,pz,↓reduceIte,af,ah,ai,aj,ak,ap,aq,au,av,Gs,h0,hc,e1,e2,e3,e4,hz]
theorem zR{B:List Int}(hB:∀x∈B,rO x)(hl:B.length<=1048576){i:Int}(h:Int)(hi:0<=i)(aU:i<=B.length)(n:Int)(hn:1<=n)(iA:n<=4294967296):
  ∃x i' h',uD [.l (B.map gm),ii i,ii h,ii n]=some [bb x,.l (B.map gm),ii i',ii h']∧0<=i'∧i'<=B.length:=by
 rw[an']
 obtain⟨x,i1,h1,e1,r1,p1,p2⟩:=my hB hl h hi aU n hn iA
 refine⟨x==0,i1,h1,?_,p1,p2⟩
 simp(disch:=omega) only[↓pq,↓pj,ps,pz,↓reduceIte,af,ah,ai,aj,ak,ap,aq,au,av,Ms,e1]
 try rfl
theorem zS{B:List Int}(hB:∀x∈B,rO x)(hl:B.length<=1048576){i:Int}(h:Int)(hi:0<=i)(aU:i<=B.length)(l:List Int)(hn:1<=l.length)(iA:l.length<=1048576):
  ∃x i' h',Cc [.l (B.map gm),ii i,ii h,.l (l.map aE)]=some [ii x,.l (B.map gm),ii i',ii h']∧x∈l∧0<=i'∧i'<=B.length:=by
 rw[an5]
 obtain⟨x,i1,h1,e1,r1,p1,p2⟩:=my hB hl h hi aU l.length (by omega) (by omega)
 have:=r1.1
 have:=r1.2
 refine⟨gt l x,i1,h1,?_,iT r1.1 r1.2,p1,p2⟩
 simp(disch:=omega) only[↓pq,↓pj,ps,pz,↓reduceIte,af,ah,ai,aj,ak,ap,aq,au,av,Mp,e1]
theorem xZ{β σ:Type}{F:(σ->Option β)->σ->Option β}(po:Option β->Prop)(Inv:Nat->σ->Prop)(step:∀m s q,Inv m s->(∀m' s',m'<m->Inv m' s'->po (q s'))->po (F q s)):
  ∀m s R,Inv m s->m<R->po (iter F R s)
 |m,s,0,_,hR=>absurd hR (Nat.not_lt_zero _)
 |m,s,R+1,hI,hR=>by
  unfold iter
  exact step m s _ hI λm' s' hm hI'=>xZ po Inv step m' s' R hI' (by omega)
theorem au3{B:List Int}(hB:∀x∈B,rO x)(hl:B.length<=1048576){F:aA->aA}{po:Option (List T)->Prop}
  (hF:∀q (h:Int) (k:Nat),(k:Int)<B.length->(k:Int)<4000->∃h',F q [ii h,ii k]=q [ii h',ii (k+1)])
  (fin:∀q (h:Int) (k:Nat),(k<=B.length∧k<=4000∧(¬(k:Int)<B.length∨¬(k:Int)<4000))->po (F q [ii h,ii k]))(h:Int):po (iter F rounds [ii h,ii 0]):=by
 refine xZ po (λm s=>∃(h:Int) (k:Nat),s=[ii h,ii k]∧k<=B.length∧k<=4000∧m=4000-k) ?_ 4000 _ rounds ⟨h,0,rfl,by omega,by omega,rfl⟩ (by unfold rounds;omega)
 rintro m s q ⟨h,k,rfl,h1,h2,rfl⟩ hq
 by_cases c1:(k:Int)<B.length
 ·by_cases c2:(k:Int)<4000
  ·obtain⟨h',e⟩:=hF q h k c1 c2
   rw[e]
   exact hq (4000-(k+1)) _ (by omega) ⟨h',k+1,by rw[rG],by omega,by omega,rfl⟩
  ·exact fin q h k ⟨h1,h2,.inr c2⟩
 ·exact fin q h k ⟨h1,h2,.inl c1⟩
def ri{α:Type}(lt:α->α->Bool)(L:List α)(x:α):List α:=L.filter (λy=>lt y x)++[x]++L.filter (λy=>lt x y)
theorem adG{α:Type}{lt:α->α->Bool}(asz:∀a b,lt a b=true->lt b a=false)(L:List α)(x:α):(ri lt L x).length<=L.length+1:=by
 have:∀L:List α,(L.filter (λy=>lt y x)).length+(L.filter (λy=>lt x y)).length<=L.length:=by
  intro L
  induction L with
  |nil=>simp
  |cons y L ih=>
   have:=asz y x
   cases h1:lt y x<;>cases h2:lt x y<;>simp_all<;>omega
 have:=this L
 simp only[ri,List.length_append,List.length_singleton];omega
theorem adH{α:Type} [Inhabited α]{ok:α->Bool}{lt:α->α->Bool}(tr:∀a b c,lt a b=true->lt b c=true->lt a c=true){L:List α}(h:du ok lt L=true)(cV:∀y∈L,ok y=true){x:α}(hx:ok x=true):du ok lt (ri lt L x)=true:=by
 have hp:=Pm tr h
 refine zG (λy hy=>?_) ?_
 ·simp only[ri,List.mem_append,List.mem_filter,List.mem_singleton]at hy
  rcases hy with(hy|hy)|hy
  ·exact cV y hy.1
  ·rw[hy];exact hx
  ·exact cV y hy.1
 ·unfold ri
  rw[List.pairwise_append,List.pairwise_append]
  refine⟨⟨hp.filter _,List.pairwise_singleton _ _,?_⟩,hp.filter _,?_⟩
  ·intro a ha b hb
   rw[List.mem_singleton]at hb
   rw[hb];exact(List.mem_filter.1 ha).2
  ·intro a ha b hb
   have hb:=(List.mem_filter.1 hb).2
   rcases List.mem_append.1 ha with ha|ha
   ·exact tr _ _ _ (List.mem_filter.1 ha).2 hb
   ·rw[List.mem_singleton]at ha
    rw[ha];exact hb
theorem zU{α:Type} [Inhabited α]{ok:α->Bool}{lt:α->α->Bool}{l:List α}(h:du ok lt l=true):∀x∈l,ok x=true:=by
 intro x hx
 obtain⟨i,hi,rfl⟩:=List.mem_iff_getElem.1 hx
 have:=bW.1 h i hi
 simp only[bL]at this
 have h1:=this.1
 rwa[eh hi]at h1
theorem au4(a b c:bH)(h1:iC a b=true)(h2:iC b c=true):iC a c=true:=by simp only[iC,decide_eq_true_eq]at *;omega
theorem au5(a b:bH)(h1:iC a b=true):iC b a=false:=by simp only[iC,decide_eq_true_eq,decide_eq_false_iff_not]at *;omega
theorem au6(a b c:bZ)(h1:n6 a b=true)(h2:n6 b c=true):n6 a c=true:=by simp only[n6,decide_eq_true_eq]at *;omega
theorem au7(a b:bZ)(h1:n6 a b=true):n6 b a=false:=by simp only[n6,decide_eq_true_eq,decide_eq_false_iff_not]at *;omega
theorem au8(L:List bH)(a b c d:Int)(h:L.length<=1048576):Cd [.l (L.map cT),ii a,ii b,ii c,ii d]=some [.l ((ri iC L ⟨a,b,c,d⟩).map cT)]:=by
 rw[an9];simp(disch:=omega) only[↓pq,↓pj,ps,pz,↓reduceIte,af,ah,ai,aj,ak,ap,aq,au,av,IY,IZ,Mr]
 refine(gO L (λi K=>[.l (K.map cT),ii i]) (λK y=>if iC y (⟨a,b,c,d⟩:bH)=true then K++[y]else K) (λK=>if K.length<=L.length then some [T.l ((K++[(⟨a,b,c,d⟩:bH)]++L.filter (λy=>iC (⟨a,b,c,d⟩:bH) y)).map cT)]else none) [] (λi K=>K.length<=i) rfl (c_ h) (by simp) ?_ ?_).trans ?_
 ·intro i K hi hK
  refine⟨by split<;>(try simp)<;>omega,λq=>?_⟩
  cases hb:iC (gt L (i:Int)) ⟨a,b,c,d⟩with
  |true=>simp(disch:=omega) only[↓pq,↓pj,ps,pz,↓reduceIte,af,ah,ai,aj,ak,ap,aq,au,av,IY,IZ,hi,kd_,hb]
  |false=>simp(disch:=omega) only[↓pq,↓pj,ps,pz,↓reduceIte,af,ah,ai,aj,ak,ap,aq,au,av,IY,IZ,hi,kd_,hb,cE]
 ·intro K q hK
  rw[if_pos (by omega)]
  simp(disch:=omega) only[↓pq,↓pj,ps,pz,↓reduceIte,af,ah,ai,aj,ak,ap,aq,au,av,IY,IZ,]
  refine(gO L (λi K=>[.l (K.map cT),ii i]) (λK y=>if iC (⟨a,b,c,d⟩:bH) y=true then K++[y]else K) (λK=>some [T.l (K.map cT)]) (K++[⟨a,b,c,d⟩]) (λi K=>K.length<=L.length+1+i) rfl (c_ h) (by simp;omega) ?_ ?_).trans (by rw[y9])
  ·intro i K hi hK
   refine⟨by split<;>(try simp)<;>omega,λq=>?_⟩
   cases hb:iC ⟨a,b,c,d⟩ (gt L (i:Int))with
   |true=>simp(disch:=omega) only[↓pq,↓pj,ps,pz,↓reduceIte,af,ah,ai,aj,ak,ap,aq,au,av,IY,IZ,hi,kd_,hb]
   |false=>simp(disch:=omega) only[↓pq,↓pj,ps,pz,↓reduceIte,af,ah,ai,aj,ak,ap,aq,au,av,IY,IZ,hi,kd_,hb,cE]
  ·intro K q hK
   simp(disch:=omega) only[↓pq,↓pj,ps,pz,↓reduceIte,af,ah,ai,aj,ak,ap,aq,au,av,IY,IZ,]
 ·rw[y9,List.nil_append,if_pos (List.length_filter_le _ _)]
  rfl
theorem DB(a b c:Int)(d:Bool):List.map bG [⟨a,b,c,d⟩]=List.map dj [⟨a,b,c,d⟩]:=rfl
theorem au9(L:List bZ)(a b c:Int)(d:Bool)(h:L.length<=1048576):VW [.l (L.map dj),ii a,ii b,ii c,bb d]=some [.l ((ri n6 L ⟨a,b,c,d⟩).map dj)]:=by
 rw[aod];simp(disch:=omega) only[↓pq,↓pj,ps,pz,↓reduceIte,af,ah,ai,aj,ak,ap,aq,au,av,I0,I1,Mw]
 refine(gO L (λi K=>[.l (K.map dj),ii i]) (λK y=>if n6 y (⟨a,b,c,d⟩:bZ)=true then K++[y]else K) (λK=>if K.length<=L.length then some [T.l ((K++[(⟨a,b,c,d⟩:bZ)]++L.filter (λy=>n6 (⟨a,b,c,d⟩:bZ) y)).map dj)]else none) [] (λi K=>K.length<=i) rfl (c_ h) (by simp) ?_ ?_).trans ?_
 ·intro i K hi hK
  refine⟨by split<;>(try simp)<;>omega,λq=>?_⟩
  cases hb:n6 (gt L (i:Int)) ⟨a,b,c,d⟩with
  |true=>simp(disch:=omega) only[↓pq,↓pj,ps,pz,↓reduceIte,af,ah,ai,aj,ak,ap,aq,au,av,I0,I1,hi,jT_,hb,DB]
  |false=>simp(disch:=omega) only[↓pq,↓pj,ps,pz,↓reduceIte,af,ah,ai,aj,ak,ap,aq,au,av,I0,I1,hi,jT_,hb,cE,DB]
 ·intro K q hK
  rw[if_pos (by omega)]
  simp(disch:=omega) only[↓pq,↓pj,ps,pz,↓reduceIte,af,ah,ai,aj,ak,ap,aq,au,av,I0,I1,DB]
  refine(gO L (λi K=>[.l (K.map dj),ii i]) (λK y=>if n6 (⟨a,b,c,d⟩:bZ) y=true then K++[y]else K) (λK=>some [T.l (K.map dj)]) (K++[⟨a,b,c,d⟩]) (λi K=>K.length<=L.length+1+i) rfl (c_ h) (by simp;omega) ?_ ?_).trans (by rw[y9])
  ·intro i K hi hK
   refine⟨by split<;>(try simp)<;>omega,λq=>?_⟩
   cases hb:n6 ⟨a,b,c,d⟩ (gt L (i:Int))with
   |true=>simp(disch:=omega) only[↓pq,↓pj,ps,pz,↓reduceIte,af,ah,ai,aj,ak,ap,aq,au,av,I0,I1,hi,jT_,hb,DB]
   |false=>simp(disch:=omega) only[↓pq,↓pj,ps,pz,↓reduceIte,af,ah,ai,aj,ak,ap,aq,au,av,I0,I1,hi,jT_,hb,cE,DB]
  ·intro K q hK
   simp(disch:=omega) only[↓pq,↓pj,ps,pz,↓reduceIte,af,ah,ai,aj,ak,ap,aq,au,av,I0,I1,]
 ·rw[y9,List.nil_append,if_pos (List.length_filter_le _ _)]
  rfl
def s7(n:Int)(L:List bH):Prop:=du (kj n) iC L=true∧L.length<=12
def w5(n:Int)(L:List bZ):Prop:=du (xP n) n6 L=true
theorem s7.put{n:Int}{L:List bH}(h:s7 n L)(hl:L.length<12){a b c d:Int}(hn:2<=n∧n<=6)(ha:1<=a)(lu:a<b)(hb:b<=n)(hc:1<=c∧c<=1000)(hd:0<=d∧d<=2):s7 n (ri iC L ⟨a,b,c,d⟩):=by
 refine⟨adH au4 h.1 (zU h.1) ?_,?_⟩
 ·simp only[kj,gx,bL,decide_eq_true_eq];omega
 ·have:=adG au5 L ⟨a,b,c,d⟩
  omega
theorem w5.put{n:Int}{L:List bZ}(h:w5 n L){a b c:Int}{d:Bool}(ha:1<=a∧a<=n)(hb:1<=b∧b<=9)(hc:1<=c∧c<=1000):w5 n (ri n6 L ⟨a,b,c,d⟩):=by
 refine adH au6 h (zU h) ?_
 simp only[xP,gx,bL,decide_eq_true_eq];omega
theorem s7.nil{n:Int}:s7 n []:=⟨rfl,by simp⟩
theorem w5.nil{n:Int}:w5 n []:=rfl
theorem vG(a b c d:Int):Prim.ev (.lit 1 [true,true,true,true]) [ii a,ii b,ii c,ii d]=some (.l ([a,b,c,d].map aE)):=by simp[Prim.ev,qE,nT,eA,aE]
theorem au_{B:List Int}(hB:∀x∈B,rO x)(hl:B.length<=1048576){i:Int}(h:Int)(hi:0<=i)(aU:i<=B.length):
  ∃(x:Net) (i' h':Int),Cf [.l (B.map gm),ii i,ii h]=some [ii x.n,.l (x.aB.map cT),.l (x.aG.map dj),.l (B.map gm),ii i',ii h']∧(n7 x=true∧2<=x.n∧x.aG.length<=2)∧0<=i'∧i'<=B.length:=by
 rw[aof]
 obtain⟨n0,i,h,e,hn,hi,aU⟩:=my hB hl h hi aU 4 (by omega) (by omega)
 simp(disch:=omega) only[↓pq,↓pj,ps,pz,↓reduceIte,af,ah,ai,aj,ak,ap,aq,au,av,wK,wL,Mx,e]
 obtain⟨n,Ep⟩:∃n,n=2+n0:=⟨_,rfl⟩
 rw[<-Ep]
 have vH:2<=n∧n<=6:=by omega
 clear Ep e hn
 refine xZ (λo=>∃(x:Net) (i' h':Int),o=some [ii x.n,.l (x.aB.map cT),.l (x.aG.map dj),.l (B.map gm),ii i',ii h']∧(n7 x=true∧2<=x.n∧x.aG.length<=2)∧0<=i'∧i'<=B.length)
  (λm s=>∃(k:Nat) (i h:Int) (L:List bH),s=[ii k,.l (B.map gm),ii i,ii h,.l (L.map cT)]∧k<=8∧(0<=i∧i<=B.length)∧s7 n L∧m=8-k) ?_ 8 _ rounds ⟨0,i,h,[],rfl,by omega,⟨hi,aU⟩,s7.nil,rfl⟩ (by unfold rounds;omega)
 rintro m s q ⟨k,i,h,L,rfl,hk,⟨hi,aU⟩,hL,rfl⟩ hq
 obtain⟨d,i,h,e,hd,hi,aU⟩:=my hB hl h hi aU 3 (by omega) (by omega)
 by_cases hc:(k:Int)<n+d
 ·have hq:∀(i h:Int) (L:List bH),(0<=i∧i<=B.length)->s7 n L->_:=λi h L hi hL=>hq (8-(k+1)) [ii (k+1),.l (B.map gm),ii i,ii h,.l (L.map cT)] (by omega) ⟨k+1,i,h,L,by rw[rG],by omega,hi,hL,rfl⟩
  obtain⟨x,i,h,e1,hx,hi,aU⟩:=my hB hl h hi aU n (by omega) (by omega)
  obtain⟨y,i,h,e2,hy,hi,aU⟩:=my hB hl h hi aU n (by omega) (by omega)
  obtain⟨c,i,h,e3,Fe,hi,aU⟩:=my hB hl h hi aU 4 (by omega) (by omega)
  obtain⟨z,i,h,e4,hz,hi,aU⟩:=zS hB hl h hi aU [0,0,1,2] (by simp) (by simp)
  have hz:0<=z∧z<=2:=by simp at hz;omega
  have tZ:=λa b=>au8 L a b (1+c) z (by have:=hL.2;omega)
  have fin:∀a b:Int,1<=a->a<b->b<=n->∀hl:L.length<12,s7 n (ri iC L ⟨a,b,1+c,z⟩):=λa b h1 h2 h3 h4=>hL.put h4 vH h1 h2 h3 (by omega) hz
  have az5:((L.length:Nat):Int)<12↔L.length<12:=by omega
  have hr:=Int.tmod_nonneg n (show 0<=1+x by omega)
  have qI:=Int.tmod_lt_of_pos (1+x) (show 0<n by omega)
  by_cases c1:(k:Int)+1<n
  ·have g1:¬((k:Int)+1=k+2):=by omega
   have g2:¬((k:Int)+1>k+2):=by omega
   by_cases c4:(L.length:Int)<12
   ·simp(disch:=omega) only[↓pq,↓pj,ps,pz,↓reduceIte,af,ah,ai,aj,ak,ap,aq,au,av,wK,wL,e,hc,e1,e2,c1,g1,g2,vG,e3,e4,c4,tZ]
    exact hq i h _ ⟨hi,aU⟩ (fin _ _ (by omega) (by omega) (by omega) (by omega))
   ·simp(disch:=omega) only[↓pq,↓pj,ps,pz,↓reduceIte,af,ah,ai,aj,ak,ap,aq,au,av,wK,wL,e,hc,e1,e2,c1,g1,g2,vG,e3,e4,c4]
    exact hq i h _ ⟨hi,aU⟩ hL
  ·by_cases c2:(1:Int)+x=1+y
   ·have Iu:n≠0:=by omega
    by_cases c3:1+x=n
    ·have mc:(1+x).tmod n=0:=by rw[c3];exact Int.tmod_self
     have g3:(1:Int)+x>1:=by omega
     rw[c2]at mc g3
     by_cases c4:(L.length:Int)<12
     ·simp(disch:=omega) only[↓pq,↓pj,ps,pz,↓reduceIte,af,ah,ai,aj,ak,ap,aq,au,av,wK,wL,e,hc,e1,e2,c1,c2,Iu,mc,g3,vG,e3,e4,c4,tZ]
      exact hq i h _ ⟨hi,aU⟩ (fin _ _ (by omega) (by omega) (by omega) (by omega))
     ·simp(disch:=omega) only[↓pq,↓pj,ps,pz,↓reduceIte,af,ah,ai,aj,ak,ap,aq,au,av,wK,wL,e,hc,e1,e2,c1,c2,Iu,mc,g3,vG,e3,e4,c4]
      exact hq i h _ ⟨hi,aU⟩ hL
    ·have mc:(1+x).tmod n=1+x:=by
      rw[Int.tmod_eq_emod_of_nonneg (by omega)]
      exact Int.emod_eq_of_lt (by omega) (by omega)
     have g3:¬((1:Int)+x>1+x+1):=by omega
     rw[c2]at mc g3
     by_cases c4:(L.length:Int)<12
     ·simp(disch:=omega) only[↓pq,↓pj,ps,pz,↓reduceIte,af,ah,ai,aj,ak,ap,aq,au,av,wK,wL,e,hc,e1,e2,c1,c2,Iu,mc,g3,vG,e3,e4,c4,tZ]
      exact hq i h _ ⟨hi,aU⟩ (fin _ _ (by omega) (by omega) (by omega) (by omega))
     ·simp(disch:=omega) only[↓pq,↓pj,ps,pz,↓reduceIte,af,ah,ai,aj,ak,ap,aq,au,av,wK,wL,e,hc,e1,e2,c1,c2,Iu,mc,g3,vG,e3,e4,c4]
      exact hq i h _ ⟨hi,aU⟩ hL
   ·by_cases c3:(1:Int)+x>1+y
    ·by_cases c4:(L.length:Int)<12
     ·simp(disch:=omega) only[↓pq,↓pj,ps,pz,↓reduceIte,af,ah,ai,aj,ak,ap,aq,au,av,wK,wL,e,hc,e1,e2,c1,c2,c3,vG,e3,e4,c4,tZ]
      exact hq i h _ ⟨hi,aU⟩ (fin _ _ (by omega) (by omega) (by omega) (by omega))
     ·simp(disch:=omega) only[↓pq,↓pj,ps,pz,↓reduceIte,af,ah,ai,aj,ak,ap,aq,au,av,wK,wL,e,hc,e1,e2,c1,c2,c3,vG,e3,e4,c4]
      exact hq i h _ ⟨hi,aU⟩ hL
    ·by_cases c4:(L.length:Int)<12
     ·simp(disch:=omega) only[↓pq,↓pj,ps,pz,↓reduceIte,af,ah,ai,aj,ak,ap,aq,au,av,wK,wL,e,hc,e1,e2,c1,c2,c3,vG,e3,e4,c4,tZ]
      exact hq i h _ ⟨hi,aU⟩ (fin _ _ (by omega) (by omega) (by omega) (by omega))
     ·simp(disch:=omega) only[↓pq,↓pj,ps,pz,↓reduceIte,af,ah,ai,aj,ak,ap,aq,au,av,wK,wL,e,hc,e1,e2,c1,c2,c3,vG,e3,e4,c4]
      exact hq i h _ ⟨hi,aU⟩ hL
 ·simp(disch:=omega) only[↓pq,↓pj,ps,pz,↓reduceIte,af,ah,ai,aj,ak,ap,aq,au,av,wK,wL,e,hc]
  refine xZ (λo=>∃(x:Net) (i' h':Int),o=some [ii x.n,.l (x.aB.map cT),.l (x.aG.map dj),.l (B.map gm),ii i',ii h']∧(n7 x=true∧2<=x.n∧x.aG.length<=2)∧0<=i'∧i'<=B.length)
   (λm s=>∃(k:Nat) (i h:Int) (K:List bZ),s=[ii k,.l (B.map gm),ii i,ii h,.l (K.map dj)]∧k<=2∧(0<=i∧i<=B.length)∧w5 n K∧K.length<=k∧m=2-k) ?_ 2 _ rounds ⟨0,i,h,[],rfl,by omega,⟨hi,aU⟩,w5.nil,by simp,rfl⟩ (by unfold rounds;omega)
  rintro m s q ⟨k,i,h,K,rfl,hk,⟨hi,aU⟩,hK,hKl,rfl⟩ hq
  obtain⟨d,i,h,e,hd,hi,aU⟩:=my hB hl h hi aU 3 (by omega) (by omega)
  by_cases hc:(k:Int)<d
  ·obtain⟨x,i,h,e1,hx,hi,aU⟩:=my hB hl h hi aU n (by omega) (by omega)
   obtain⟨y,i,h,e2,hy,hi,aU⟩:=my hB hl h hi aU 3 (by omega) (by omega)
   obtain⟨c,i,h,e3,Fe,hi,aU⟩:=my hB hl h hi aU 5 (by omega) (by omega)
   obtain⟨f,i,h,e4,hi,aU⟩:=zR hB hl h hi aU 2 (by omega) (by omega)
   have tZ:=au9 K (1+x) (1+y) (1+c) f (by omega)
   have:=adG au7 K ⟨1+x,1+y,1+c,f⟩
   simp(disch:=omega) only[↓pq,↓pj,ps,pz,↓reduceIte,af,ah,ai,aj,ak,ap,aq,au,av,wK,wL,e,hc,e1,e2,e3,e4,tZ]
   exact hq (2-(k+1)) _ (by omega) ⟨k+1,i,h,_,by rw[rG],by omega,⟨hi,aU⟩,hK.put (by omega) (by omega) (by omega),by omega,rfl⟩
  ·simp(disch:=omega) only[↓pq,↓pj,ps,pz,↓reduceIte,af,ah,ai,aj,ak,ap,aq,au,av,wK,wL,e,hc]
   refine⟨⟨n,L,K⟩,i,h,rfl,⟨?_,vH.1,by show K.length<=2;omega⟩,hi,aU⟩
   unfold n7
   simp only[bL,decide_eq_true_eq]
   exact⟨⟨⟨⟨be.2 (by omega),hL.2⟩,by show K.length<=4;omega⟩,hL.1⟩,hK⟩
theorem PA{x:Net}(h:n7 x=true):1<=x.n∧x.n<=6:=by
 unfold n7 at h
 simp only[bL]at h
 exact be.1 h.1.1.1.1
theorem au'{B:List Int}(hB:∀x∈B,rO x)(hl:B.length<=1048576)(h:Int){k:Nat}(hc:(k:Int)<B.length):
  ∃m a c d,Prim.ev (.bin .mul) [ii h,ii 131]=some (ii m)∧Prim.ev .lk [.l (B.map gm),ii k]=some (bb true)∧Prim.ev (.cell 1 0) [.l (B.map gm),ii k]=some (u8 (gt B k))∧Prim.ev (.Qc .i64) [u8 (gt B k)]=some (ii (gt B k))∧
   Prim.ev (.bin .add) [ii m,ii (gt B k)]=some (ii a)∧Prim.ev (.bin .add) [ii a,ii 7]=some (ii c)∧Prim.ev (.bin .and) [ii c,ii 1073741823]=some (ii d):=by
 have hx:=hB _ (iT (l:=B) (n:=(k:Int)) (by omega) hc)
 obtain⟨m,hm⟩:∃m,Prim.ev (.bin .mul) [ii h,ii 131]=some (ii m):=⟨_,K6 _ _ _⟩
 obtain⟨a,ha⟩:∃a,Prim.ev (.bin .add) [ii m,ii (gt B k)]=some (ii a):=⟨_,uu _ _ _⟩
 obtain⟨c,Fe⟩:∃c,Prim.ev (.bin .add) [ii a,ii 7]=some (ii c):=⟨_,uu _ _ _⟩
 obtain⟨d,hd⟩:=auZ c 1073741823
 exact⟨m,a,c,d,hm,F0 (by omega) hc,adD (by omega) hc,adE hx.1 hx.2,ha,Fe,hd⟩
theorem ava(ts:List T)(h:je [.sl Pz] ts):∃B:List Int,ts=[.l (B.map gm)]∧∀x∈B,rO x:=by
 obtain⟨t1,_,rfl,q1,rfl⟩:=K4 h
 unfold WT at q1
 obtain⟨z1,rfl,m1,g1⟩:=q1
 obtain⟨B,rfl,hB⟩:=U0 auY g1
 exact⟨B,rfl,hB⟩
theorem adI(B:List Int):Ca [.l (B.map gm)]=some [bb (decide ((B.length:Int)>1048576))]:=by
 have hn:Prim.ev .len [.l (B.map gm)]=some (ii B.length):=B3
 rw[anZ]
 simp(disch:=omega) only[↓pq,↓pj,ps,pz,↓reduceIte,af,ah,ai,aj,ak,ap,aq,au,av,Mo,hn]
 try rfl
def tN(a:Int):Prop:=1<=a∧a<=6
inductive Pa (s:List ay) (ar:Int):Int->Int->Int->Prop
 |nil {a:Int} (h:tN a):Pa s ar a a 0
 |cons {a u b n:Int} (h:tN a) (hc:dY s ar a u≠0) (p:Pa s ar u b n):Pa s ar a b (dY s ar a u+n)
theorem Pa.l{s:List ay}{ar a b n:Int}(h:Pa s ar a b n):tN a:=by cases h<;>assumption
theorem Pa.r{s:List ay}{ar a b n:Int}(h:Pa s ar a b n):tN b:=by induction h<;>assumption
theorem Pa.nn{s:List ay}(hs:dv s=true){ar a b n:Int}(h:Pa s ar a b n):0<=n∧(n=0->a=b):=by
 induction h with
 |nil=>exact⟨by omega,λ_=>rfl⟩
 | @cons a u b n h hc p ih=>
  have:=Ji hs ar a u
  exact⟨by omega,λh=>by omega⟩
theorem Pa.snoc{s:List ay}{ar a u v n:Int}(h:Pa s ar a u n)(hc:dY s ar u v≠0)(hv:tN v):Pa s ar a v (n+dY s ar u v):=by
 induction h with
 |nil h=>rw[Int.zero_add];have:=Pa.cons h hc (.nil hv);rwa[Int.add_zero]at this
 |cons h rC p ih=>rw[Int.add_assoc];exact .cons h rC (ih hc)
theorem Pa.app{s:List ay}{ar a u v n m:Int}(h:Pa s ar a u n)(h':Pa s ar u v m):Pa s ar a v (n+m):=by
 induction h with
 |nil h=>rwa[Int.zero_add]
 |cons h rC p ih=>rw[Int.add_assoc];exact .cons h rC (ih h')
theorem Pa.last{s:List ay}{ar a v n:Int}(h:Pa s ar a v n):(a=v∧n=0)∨∃p m,Pa s ar a p m∧dY s ar p v≠0∧n=m+dY s ar p v:=by
 induction h with
 |nil h=>exact .inl ⟨rfl,rfl⟩
 | @cons a u b n h hc p ih=>
  right
  rcases ih with⟨rfl,rfl⟩|⟨p',m,h1,h2,h3⟩
  ·exact⟨a,0,.nil h,hc,by omega⟩
  ·exact⟨p',dY s ar a u+m,.cons h hc h1,h2,by omega⟩
def DC(s:List ay)(ar fr a:Int)(W:List Way)(v:Int):Way:=
 if dY s ar a v=0∨v=fr then gt W v
 else if(gt W v).to=0∨(gt W a).cost+dY s ar a v<(gt W v).cost then⟨v,(gt W a).cost+dY s ar a v,if a=fr then [v]else(gt W a).aW⟩
 else if(gt W a).cost+dY s ar a v=(gt W v).cost then mw (gt W v) ⟨v,(gt W a).cost+dY s ar a v,if a=fr then [v]else(gt W a).aW⟩
 else gt W v
theorem avb{s:List ay}(hs:dv s=true)(ar fr:Int){a:Int}(ha:tN a){W:List Way}(hl7:W.length=7){v:Int}(hv:tN v):gt (pU s ar fr a W) v=DC s ar fr a W v:=by
 have hl:(List.range 6).length=6:=List.length_range
 have haa:DC s ar fr a W a=gt W a:=by unfold DC;rw[if_pos (.inl (Hy hs ar a))]
 have key:=IU (l:=List.range 6) (g:=nf s ar fr a) (c:=W) (Inv:=λi W'=>W'.length=7∧∀u:Int,tN u->gt W' u=if u<=i then DC s ar fr a W u else gt W u)
  ⟨hl7,λu hu=>by rw[if_neg (by have:=hu.1;omega)]⟩ λi W' hi ⟨h1,h2⟩=>by
  rw[hl]at hi
  rw[eh (by rw[hl];omega),List.getElem_range]
  have n9:i<6:=by omega
  have ga:gt W' a=gt W a:=by rw[h2 a ha];split<;>simp[haa]
  have gi:gt W' ((i:Int)+1)=gt W ((i:Int)+1):=by rw[h2 _ ⟨by omega,by omega⟩,if_neg (by omega)]
  have hlen:(nf s ar fr a W' i).length=7:=by
   unfold nf
   split
   ·exact h1
   ·split
    ·simp[h1]
    ·split
     ·simp[h1]
     ·exact h1
  refine⟨hlen,λu hu=>?_⟩
  have hu0:0<=u:=by have:=hu.1;omega
  by_cases he:u=(i:Int)+1
  ·subst he
   rw[if_pos (by omega)]
   unfold nf DC
   rw[gi,ga]
   split
   ·rw[gi]
   ·split
    ·rw[tL h1 n9 hu0,if_pos rfl]
    ·split
     ·rw[tL h1 n9 hu0,if_pos rfl]
     ·rw[gi]
  ·have:gt (nf s ar fr a W' i) u=gt W' u:=by
    unfold nf
    split
    ·rfl
    ·split
     ·rw[tL h1 n9 hu0,if_neg he]
     ·split
      ·rw[tL h1 n9 hu0,if_neg he]
      ·rfl
   rw[this,h2 u hu]
   exact y8 ⟨λh=>by omega,λh=>by omega⟩ _ _
 rw[hl]at key
 have:=key.2 v hv
 rwa[if_pos (show v<=((6:Nat):Int) by have:=hv.2;omega)]at this
structure DI (s:List ay) (ar fr:Int) (W:List Way) (D:List Int):Prop where
 fr0:(gt W fr).to=fr∧(gt W fr).cost=0
 snd:∀v,tN v->(gt W v).to≠0->Pa s ar fr v (gt W v).cost
 rel:∀p∈D,∀v,tN v->dY s ar p v≠0->(gt W v).to≠0∧(gt W v).cost<=(gt W p).cost+dY s ar p v
 fg:∀v,tN v->v≠fr->(gt W v).to≠0->∀h,h∈(gt W v).aW↔∃p∈D,dY s ar p v≠0∧(gt W p).cost+dY s ar p v=(gt W v).cost∧(if p=fr then h=v else h∈(gt W p).aW)
theorem DI.start{s:List ay}{ar fr:Int}(h:tN fr):DI s ar fr (W0 fr) []:=by
 have g:∀v,tN v->(gt (W0 fr) v).to≠0->v=fr:=λv hv hn=>by
  have h1:=hv.1
  have h2:=hv.2
  rw[uJ h (by omega) (by omega)]at hn
  split at hn
  ·rename_i e;exact e.symm
  ·exact absurd rfl hn
 have g0:gt (W0 fr) fr=⟨fr,0,[]⟩:=by have h1:=h.1;have h2:=h.2;rw[uJ h (by omega) (by omega),if_pos rfl]
 refine⟨by rw[g0];exact⟨rfl,rfl⟩,λv hv hn=>?_,by simp,λv hv dU hn=>absurd (g v hv hn) dU⟩
 have:=g v hv hn
 subst this
 rw[g0];exact .nil h
theorem avc{a b:Way}(ha:gk a.aW)(hb:gk b.aW)(he:a.cost=b.cost)(h:Int):h∈(mw a b).aW↔h∈a.aW∨h∈b.aW:=by
 unfold mw
 rw[if_neg (by omega),if_neg (by omega),Hl]
 constructor
 ·exactλh=>h.2
 ·exactλh'=>⟨h'.elim (ha.2 h) (hb.2 h),h'⟩
theorem DI.step{s:List ay}(hs:dv s=true){ar fr:Int}{W:List Way}{D:List Int}(hI:iX fr W D)(h:DI s ar fr W D)(hb:eB W D≠0):DI s ar fr (pU s ar fr (eB W D) W) (D++[eB W D]):=by
 obtain⟨h1,h2,h3,h4⟩:=(Dj W D).resolve_left λe=>hb e.1
 generalize ha:eB W D=a at*
 have hl:=hI.ok.len
 have bR:=λv (hv:tN v)=>avb hs ar fr (a:=a) h1 hl hv
 have ho:∀v,tN v->gk (gt W v).aW:=λv hv=>hI.ok.aW v (by have:=hv.1;omega) (by have:=hv.2;omega)
 have ij:∀v,tN v->gk (if a=fr then [v]else(gt W a).aW):=λv hv=>by
  split
  ·exact Je hv.1 hv.2
  ·exact ho a h1
 have hD:∀p,p∈D∨p=a->gt (pU s ar fr a W) p=gt W p∧tN p:=by
  intro p hp
  rcases hp with hp|rfl
  ·have hm:=hI.mem p hp
   refine⟨?_,hm.1⟩
   rw[bR p hm.1]
   unfold DC
   have hmo:=hI.mono p hp a h1.1 h1.2 h3 h2
   have hk:=Ji hs ar a p
   by_cases q1:dY s ar a p=0∨p=fr
   ·rw[if_pos q1]
   rw[if_neg q1,if_neg,if_neg]
   ·intro e;have:dY s ar a p≠0:=λe=>q1 (.inl e);omega
   ·rintro(e|e)
    ·exact hm.2 e
    ·omega
  ·refine⟨?_,h1⟩
   rw[bR p h1];unfold DC;rw[if_pos (.inl (Hy hs ar p))]
 have hfr:tN fr:=hI.fr6
 refine⟨?_,λv hv hn=>?_,λp hp v hv hc=>?_,λv hv dU hn x=>?_⟩
 ·rw[bR fr hfr];unfold DC;rw[if_pos (.inr rfl)];exact h.fr0
 ·rw[bR v hv]at hn⊢
  unfold DC at hn⊢
  by_cases q1:dY s ar a v=0∨v=fr
  ·rw[if_pos q1]at hn⊢;exact h.snd v hv hn
  rw[if_neg q1]at hn⊢
  have hpa:=(h.snd a h1 h2).snoc (λe=>q1 (.inl e)) hv
  by_cases q2:(gt W v).to=0∨(gt W a).cost+dY s ar a v<(gt W v).cost
  ·rw[if_pos q2];exact hpa
  rw[if_neg q2]at hn⊢
  by_cases q3:(gt W a).cost+dY s ar a v=(gt W v).cost
  ·rw[if_pos q3]
   rcases zw (gt W v) ⟨v,(gt W a).cost+dY s ar a v,if a=fr then [v]else(gt W a).aW⟩with e|e
   ·rw[e];exact h.snd v hv λe=>q2 (.inl e)
   ·rw[e];exact hpa
  ·rw[if_neg q3];exact h.snd v hv λe=>q2 (.inl e)
 ·have qL:p∈D∨p=a:=by simpa using hp
  obtain⟨g1,g2⟩:=hD p qL
  rw[g1,bR v hv]
  unfold DC
  by_cases hpa:p=a
  ·rw[hpa]at hc⊢
   by_cases q1:v=fr
   ·subst q1
    rw[if_pos (.inr rfl)]
    have:=Ji hs ar a v
    have h5:=hI.ok.cost a (by omega) (by omega)
    have h6:=h.fr0
    have:=hv.1
    refine⟨by omega,by omega⟩
   ·rw[if_neg (λe=>e.elim hc q1)]
    split
    ·exact⟨by show v≠0;have:=hv.1;omega,by show(gt W a).cost+_<=_;omega⟩
    ·rename_i q2
     split
     ·rename_i q3
      have n3:=(hI.ok.to v (by have:=hv.1;omega) (by have:=hv.2;omega)).resolve_left (λe=>q2 (.inl e))
      rw[wQ n3 rfl]
      refine⟨by have:=hv.1;omega,?_⟩
      rcases zw (gt W v) ⟨v,(gt W a).cost+dY s ar a v,if a=fr then [v]else(gt W a).aW⟩with e|e
      ·rw[e];omega
      ·rw[e];exact Int.le_refl _
     ·exact⟨λe=>q2 (.inl e),by omega⟩
  ·have hpD:=qL.resolve_right hpa
   obtain⟨k1,k2⟩:=h.rel p hpD v hv hc
   split
   ·exact⟨k1,k2⟩
   ·split
    ·rename_i q2
     have q3:=q2.resolve_left k1
     exact⟨by show v≠0;have:=hv.1;omega,by show(gt W a).cost+_<=_;omega⟩
    ·split
     ·have n3:=(hI.ok.to v (by have:=hv.1;omega) (by have:=hv.2;omega)).resolve_left k1
      rw[wQ n3 rfl]
      refine⟨by have:=hv.1;omega,?_⟩
      rcases zw (gt W v) ⟨v,(gt W a).cost+dY s ar a v,if a=fr then [v]else(gt W a).aW⟩with e|e
      ·rw[e];exact k2
      ·rename_i q3;rw[e];show(gt W a).cost+_<=_;omega
     ·exact⟨k1,k2⟩
 ·
  have yd:∀c:Int,(∃p∈D++[a],dY s ar p v≠0∧(gt (pU s ar fr a W) p).cost+dY s ar p v=c∧(if p=fr then x=v else x∈(gt (pU s ar fr a W) p).aW))↔
    ((∃p∈D,dY s ar p v≠0∧(gt W p).cost+dY s ar p v=c∧(if p=fr then x=v else x∈(gt W p).aW))∨(dY s ar a v≠0∧(gt W a).cost+dY s ar a v=c∧x∈(if a=fr then [v]else(gt W a).aW))):=by
   intro c
   have ea:(if a=fr then x=v else x∈(gt W a).aW)↔x∈(if a=fr then [v]else(gt W a).aW):=by
    split<;>simp
   constructor
   ·rintro⟨p,hp,k1,k2,k3⟩
    have qL:p∈D∨p=a:=by simpa using hp
    rw[(hD p qL).1]at k2 k3
    rcases qL with qL|rfl
    ·exact .inl ⟨p,qL,k1,k2,k3⟩
    ·exact .inr ⟨k1,k2,ea.1 k3⟩
   ·rintro(⟨p,hp,k1,k2,k3⟩|⟨k1,k2,k3⟩)
    ·exact⟨p,by simp[hp],k1,by rw[(hD p (.inl hp)).1];exact k2,by rw[(hD p (.inl hp)).1];exact k3⟩
    ·exact⟨a,by simp,k1,by rw[(hD a (.inr rfl)).1];exact k2,by rw[(hD a (.inr rfl)).1];exact ea.2 k3⟩
  rw[bR v hv]at hn⊢
  rw[yd]
  unfold DC at hn⊢
  by_cases q1:dY s ar a v=0
  ·rw[if_pos (.inl q1)]at hn⊢
   rw[h.fg v hv dU hn]
   exact⟨.inl,λk=>k.resolve_right λk=>k.1 q1⟩
  rw[if_neg (λe=>e.elim q1 dU)]at hn⊢
  by_cases q2:(gt W v).to=0∨(gt W a).cost+dY s ar a v<(gt W v).cost
  ·rw[if_pos q2]at hn⊢
   show x∈(if a=fr then [v]else(gt W a).aW)↔_
   constructor
   ·exactλk=>.inr ⟨q1,rfl,k⟩
   ·rintro(⟨p,hp,k1,k2,k3⟩|⟨_,_,k⟩)
    ·obtain⟨k4,k5⟩:=h.rel p hp v hv k1
     rcases q2 with q2|q2
     ·exact absurd q2 k4
     ·have k2:(gt W p).cost+dY s ar p v=(gt W a).cost+dY s ar a v:=k2
      omega
    ·exact k
  rw[if_neg q2]at hn⊢
  have adK:(gt W v).to≠0:=λe=>q2 (.inl e)
  by_cases q3:(gt W a).cost+dY s ar a v=(gt W v).cost
  ·rw[if_pos q3]
   have Dg:(mw (gt W v) ⟨v,(gt W a).cost+dY s ar a v,if a=fr then [v]else(gt W a).aW⟩).cost=(gt W v).cost:=by
    rcases zw (gt W v) ⟨v,(gt W a).cost+dY s ar a v,if a=fr then [v]else(gt W a).aW⟩with e|e
    ·exact e
    ·rw[e];exact q3
   rw[Dg,avc (ho v hv) (ij v hv) q3.symm,h.fg v hv dU adK]
   constructor
   ·exactλk=>k.imp_right λk=>⟨q1,q3,k⟩
   ·exactλk=>k.imp_right λk=>k.2.2
  ·rw[if_neg q3]
   rw[h.fg v hv dU adK]
   exact⟨.inl,λk=>k.resolve_right λk=>q3 k.2.1⟩
theorem adL{f:ay->ay}{x:ay}:∀{l s:List ay},x∈eQ f s l->x∈s∨∃r∈l,x=f r
 | [],s,h=>.inl h
 |r::l,s,h=>by
  have h:x∈eQ f (cM s (f r)) l:=h
  rcases adL h with h|⟨y,hy,e⟩
  ·rcases wN h with h|h
   ·exact .inr ⟨r,.head _,h⟩
   ·exact .inl h
  ·exact .inr ⟨y,.tail _ hy,e⟩
theorem zV{α β:Type}{P:β->Prop}{g:β->α->β}:∀{l:List α} {c:β},(∀a∈l,∀c,P c->P (g c a))->P c->P (l.foldl g c)
 | [],c,_,h=>h
 |a::l,c,hg,h=>by rw[List.foldl_cons];exact zV (λb hb=>hg b (.tail _ hb)) (hg a (.head _) c h)
section
variable {x:Net} {L U:List Bool}
def Q1(x:Net)(L U:List Bool)(r:ay):Prop:=
 gt U (r.owner-1)=true∧r.seq=1∧(1<=r.owner∧r.owner<=x.n)∧(r.kind=1->r=zK x.aB L U r.owner r.ae∧r.ae∈lh x.aB r.owner)∧(r.kind=3->∃t∈x.aG,r=HR t)∧
  (r.kind=2->AF x.aB r.owner=true)
theorem avd(h:n7 x=true):∀r∈zN x L U,Q1 x L U r:=by
 obtain⟨hn,_,_,hA,hT⟩:=rM h
 unfold zN
 refine zV (P:=λc=>∀r∈c,Q1 x L U r) (λk _ c hc=>?_) ?_
 ·unfold wU
  refine zV (P:=λc=>∀r∈c,Q1 x L U r) (λi hi c hc=>?_) hc
  have hi:=List.mem_range.1 hi
  unfold zM
  split
  ·rename_i hu
   split
   ·rename_i hb
    intro r hr
    unfold zJ at hr
    rcases adL hr with hr|⟨y,hy,e⟩
    ·exact hc r (List.mem_filter.1 hr).1
    ·obtain⟨a,ha,hy⟩:=List.mem_flatMap.1 hy
     obtain⟨q1,q2,q3,q4,q5,q6,_⟩:=QY hy
     have e1:r.owner=(i:Int)+1:=by rw[e];exact q3
     have e2:r.kind=2:=by rw[e];exact q2
     have e3:r.seq=1:=by rw[e];rfl
     refine⟨by rw[e1];exact hu,e3,by omega,λh=>by omega,λh=>by omega,λ_=>by rw[e1];exact hb⟩
   ·exact hc
  ·exact hc
 ·refine zV (P:=λc=>∀r∈c,Q1 x L U r) (λt ht c hc=>?_) ?_
  ·unfold uM
   split
   ·rename_i hu
    intro r hr
    rcases wN hr with e|hr
    ·have:=HS hT ht
     rw[e]
     exact⟨hu,rfl,this.1,λh=>absurd h (by show(3:Int)≠1;decide),λ_=>⟨t,ht,rfl⟩,λh=>absurd h (by show(3:Int)≠2;decide)⟩
    ·exact hc r hr
   ·exact hc
  ·refine zV (P:=λc=>∀r∈c,Q1 x L U r) (λi hi c hc=>?_) (by simp)
   have hi:=List.mem_range.1 hi
   unfold zL
   split
   ·rename_i hu
    refine zV (P:=λc=>∀r∈c,Q1 x L U r) (λa ha c hc=>?_) hc
    intro r hr
    rcases wN hr with e|hr
    ·rw[e]
     exact⟨hu,rfl,by show 1<=(i:Int)+1∧(i:Int)+1<=x.n;omega,λ_=>⟨rfl,ha⟩,λh=>absurd h (by show(1:Int)≠3;decide),λh=>absurd h (by show(1:Int)≠2;decide)⟩
    ·exact hc r hr
   ·exact hc
end
theorem PB(s:List ay)(r:ay):bA s r<s.length:=o5 _ _
theorem ave{s:List ay}(h:ig s){a b:ay}(ha:a∈s)(hb:b∈s)(hk:dS a b=true):a=b:=by
 obtain⟨i,hi,e1⟩:=List.mem_iff_getElem.1 ha
 obtain⟨j,hj,e2⟩:=List.mem_iff_getElem.1 hb
 have hp:=List.pairwise_iff_getElem.1 h
 rw[sameKey_iff]at hk
 rcases Nat.lt_trichotomy i j with oI|oI|oI
 ·have:=hp i j hi hj oI
  rw[e1,e2]at this
  rw[pG]at this
  omega
 ·subst oI;rw[<-e1,<-e2]
 ·have:=hp j i hj hi oI
  rw[e1,e2]at this
  rw[pG]at this
  omega
theorem H5{s:List ay}{r:ay}(h:0<=bA s r):gt s (bA s r)∈s∧dS (gt s (bA s r)) r=true:=
 ⟨iT h (PB s r),q_ (λx:ay=>dS x r) s h⟩
theorem avf{s:List ay}{r:ay}(h:bA s r<0):∀x∈s,dS x r=false:=(D8 _ _).1 h
theorem H6{s:List ay}{r x:ay}(hx:x∈s)(hk:dS x r=true):0<=bA s r:=zH hx hk
theorem PC{s:List ay}(hs:ig s){r x:ay}(hx:x∈s)(hk:dS x r=true):gt s (bA s r)=x:=by
 obtain⟨h1,h2⟩:=H5 (H6 hx hk)
 refine ave hs h1 hx ?_
 rw[sameKey_iff]at*
 omega
def oN(s:List ay)(r:ay):Bool:=eP r&&(if 0<=bA s r then decide ((gt s (bA s r)).seq<r.seq)else decide (s.length<150))
def mz(s:List ay)(r:ay):List ay:=if oN s r=true then cM s r else s
theorem vI{s:List ay}(h:dv s=true):s.length<=150:=by
 unfold dv at h
 simp only[bL,decide_eq_true_eq]at h
 exact h.1
theorem DD{s:List ay}(h1:ig s)(h2:∀r∈s,eP r=true)(h3:s.length<=150):dv s=true:=by
 unfold dv
 simp only[bL,decide_eq_true_eq]
 exact⟨h3,zG h2 h1⟩
theorem w6{s:List ay}(h:dv s=true):aQ s:=λr hr=>by
 have:=Dr (Dd h hr)
 omega
theorem adM{α:Type}{p q:α->Bool}(hpq:∀a,p a=true->q a=false):∀{l:List α} {x:α},x∈l->p x=false->q x=false->(l.filter p).length+(l.filter q).length+1<=l.length
 |a::l,x,hx,hp,hq=>by
  have gen:∀l:List α,(l.filter p).length+(l.filter q).length<=l.length:=by
   intro l
   induction l with
   |nil=>simp
   |cons a l ih=>
    have:=hpq a
    cases h1:p a<;>cases h2:q a<;>simp_all<;>omega
  rcases List.mem_cons.1 hx with rfl|hx
  ·have:=gen l
   simp only[List.filter_cons,hp,hq,cE,if_false,List.length_cons]
   omega
  ·have ih:=adM hpq hx hp hq
   have:=hpq a
   cases h1:p a<;>cases h2:q a<;>simp_all<;>omega
theorem avh{s:List ay}{r:ay}(h:0<=bA s r):(cM s r).length<=s.length:=by
 obtain⟨h1,h2⟩:=H5 h
 rw[sameKey_iff]at h2
 have:=adM (p:=λx=>fC x r) (q:=λx=>fC r x) (λa ha=>by
  rw[<-Bool.not_eq_true]
  intro hb
  rw[pG]at ha hb
  omega) h1 (by rw[<-Bool.not_eq_true,pG];omega) (by rw[<-Bool.not_eq_true,pG];omega)
 unfold cM
 simp only[List.length_append,List.length_singleton]
 omega
theorem avi{s:List ay}(h:dv s=true){r:ay}(hr:eP r=true)(hk:0<=bA s r∨s.length<150):dv (cM s r)=true:=by
 have hl:=vI h
 refine DD (Jc (qR h) r) (λx hx=>?_) ?_
 ·rcases wN hx with rfl|hx
  ·exact hr
  ·exact Dd h hx
 ·rcases hk with hk|hk
  ·have:=avh hk;omega
  ·have:=Hi s r;omega
theorem DE{s:List ay}(h:dv s=true)(r:ay):dv (mz s r)=true:=by
 unfold mz
 split
 ·rename_i hi
  unfold oN at hi
  simp only[bL]at hi
  refine avi h hi.1 ?_
  split at hi
  ·rename_i h0;exact .inl h0
  ·exact .inr (by simpa using hi.2)
 ·exact h
theorem avj(s:List ay)(r:ay)(h:dv s=true)(hr:r.aX.length<=1048576):
  k5_ [.l (s.map aw),ii r.ae,ii r.kind,ii r.owner,ii r.key,ii r.seq,.l (r.aX.map eJ),ii r.cost,bb r.e_]=some (if oN s r=true then [.l ((cM s r).map aw),bb true]else [.l [],bb false]):=by
 have hl:=vI h
 have hn:=w6 h
 have e1:=G8 s (by omega) hn
 have e2:=ab6 r.ae r.kind r.owner r.key r.seq r.aX r.cost r.e_ hr
 have e3:=He s r.ae r.kind r.owner r.key (ii r.seq) (.l (r.aX.map eJ)) (ii r.cost) (bb r.e_) (by omega)
 have e4:=Da s r.ae r.kind r.owner r.key r.seq r.aX r.cost r.e_ (by omega) hn (qR h) hr
 rw[wM]at e3
 have bC:=PB s r
 rw[arS]
 unfold oN
 cases hk:eP r with
 |false=>
  rw[show eP ⟨r.ae,r.kind,r.owner,r.key,r.seq,r.aX,r.cost,r.e_⟩=eP r from rfl,hk]at e2
  simp(disch:=omega) only[↓pq,↓pj,ps,pz,↓reduceIte,af,ah,ai,aj,ak,ap,aq,au,av,Og,e1,h,e2,cE]
  simp
 |true=>
  rw[show eP ⟨r.ae,r.kind,r.owner,r.key,r.seq,r.aX,r.cost,r.e_⟩=eP r from rfl,hk]at e2
  by_cases h0:0<=bA s r
  ·rw[if_pos h0]
   have h1:bA s r>=0:=h0
   have h2:¬bA s r<0:=by omega
   by_cases hq:(gt s (bA s r)).seq<r.seq
   ·have j6:¬(gt s (bA s r)).seq>=r.seq:=by omega
    simp(disch:=omega) only[↓pq,↓pj,ps,pz,↓reduceIte,af,ah,ai,aj,ak,ap,aq,au,av,Og,e1,h,e2,e3,h1,h2,bC,j6,e4]
    simp[hq]
   ·have j6:(gt s (bA s r)).seq>=r.seq:=by omega
    simp(disch:=omega) only[↓pq,↓pj,ps,pz,↓reduceIte,af,ah,ai,aj,ak,ap,aq,au,av,Og,e1,h,e2,e3,h1,h2,bC,j6]
    simp[hq]
  ·rw[if_neg h0]
   have h1:¬bA s r>=0:=h0
   have h2:bA s r<0:=by omega
   by_cases hq:s.length<150
   ·have j6:¬(s.length:Int)>=150:=by omega
    simp(disch:=omega) only[↓pq,↓pj,ps,pz,↓reduceIte,af,ah,ai,aj,ak,ap,aq,au,av,Og,e1,h,e2,e3,h1,h2,j6,e4]
    simp[hq]
   ·have j6:(s.length:Int)>=150:=by omega
    simp(disch:=omega) only[↓pq,↓pj,ps,pz,↓reduceIte,af,ah,ai,aj,ak,ap,aq,au,av,Og,e1,h,e2,e3,h1,h2,j6]
    simp[hq]
theorem qr_(s:List ay)(r:ay)(hl:s.length<=1048570)(hn:aQ s)(rN:ig s)(hr:r.aX.length<=1048576):
  An [.l (s.map aw),ii r.ae,ii r.kind,ii r.owner,ii r.key,ii r.seq,.l (r.aX.map eJ),ii r.cost,bb r.e_]=some [.l ((mz s r).map aw),bb (oN s r)]:=by
 have e2:=ab7 r.ae r.kind r.owner r.key r.seq r.aX r.cost r.e_ hr
 have e3:=C9 s r.ae r.kind r.owner r.key (ii r.seq) (.l (r.aX.map eJ)) (ii r.cost) (bb r.e_) (by omega)
 have e4:=Jd s r.ae r.kind r.owner r.key r.seq r.aX r.cost r.e_ (by omega) hn hr
 rw[wM]at e3
 have bC:=PB s r
 rw[apm]
 unfold mz
 have hB:oN s r=(eP r&&(if 0<=bA s r then decide ((gt s (bA s r)).seq<r.seq)else decide (s.length<150))):=rfl
 cases hk:eP r with
 |false=>
  rw[show eP ⟨r.ae,r.kind,r.owner,r.key,r.seq,r.aX,r.cost,r.e_⟩=eP r from rfl,hk]at e2
  rw[hB,hk]
  simp(disch:=omega) only[↓pq,↓pj,ps,pz,↓reduceIte,af,ah,ai,aj,ak,ap,aq,au,av,M8,e2,e3,cE]
  simp
 |true=>
  rw[show eP ⟨r.ae,r.kind,r.owner,r.key,r.seq,r.aX,r.cost,r.e_⟩=eP r from rfl,hk]at e2
  by_cases h0:0<=bA s r
  ·rw[hB,hk,if_pos h0]
   have h1:bA s r>=0:=h0
   have h2:¬bA s r<0:=by omega
   by_cases hq:(gt s (bA s r)).seq<r.seq
   ·have j6:¬(gt s (bA s r)).seq>=r.seq:=by omega
    simp(disch:=omega) only[↓pq,↓pj,ps,pz,↓reduceIte,af,ah,ai,aj,ak,ap,aq,au,av,M8,e2,e3,h1,h2,bC,j6,e4]
    simp[hq]
   ·have j6:(gt s (bA s r)).seq>=r.seq:=by omega
    simp(disch:=omega) only[↓pq,↓pj,ps,pz,↓reduceIte,af,ah,ai,aj,ak,ap,aq,au,av,M8,e2,e3,h1,h2,bC,j6]
    simp[hq]
  ·rw[hB,hk,if_neg h0]
   have h1:¬bA s r>=0:=h0
   have h2:bA s r<0:=by omega
   by_cases hq:s.length<150
   ·have j6:¬(s.length:Int)>=150:=by omega
    simp(disch:=omega) only[↓pq,↓pj,ps,pz,↓reduceIte,af,ah,ai,aj,ak,ap,aq,au,av,M8,e2,e3,h1,h2,j6,e4]
    simp[hq]
   ·have j6:(s.length:Int)>=150:=by omega
    simp(disch:=omega) only[↓pq,↓pj,ps,pz,↓reduceIte,af,ah,ai,aj,ak,ap,aq,au,av,M8,e2,e3,h1,h2,j6]
    simp[hq]
def lj(p:List ay×List ay)(r:ay):List ay×List ay:=if oN p.1 r=true then(cM p.1 r,p.2++[r])else p
def Eu(s l:List ay):List ay×List ay:=l.foldl lj (s,[])
theorem DF(p:List ay×List ay)(r:ay):(lj p r).1=mz p.1 r:=by unfold lj mz;split<;>rfl
theorem avl{s l:List ay}(h:dv s=true):dv (Eu s l).1=true:=by
 have:∀(l:List ay) (p:List ay×List ay),dv p.1=true->dv (l.foldl lj p).1=true:=by
  intro l
  induction l with
  |nil=>exactλp h=>h
  |cons r l ih=>intro p h;exact ih _ (by rw[DF];exact DE h r)
 exact this l (s,[]) h
theorem avm(s l:List ay)(h:dv s=true)(hl:l.length<=1048576)(hn:aQ l):kL_ [.l (s.map aw),.l (l.map aw)]=some [.l ((Eu s l).1.map aw),.l ((Eu s l).2.map aw)]:=by
 have oX:=vI h
 rw[arU];simp(disch:=omega) only[↓pq,↓pj,ps,pz,↓reduceIte,af,ah,ai,aj,ak,ap,aq,au,av,qO_,Oh,Hf s (by omega) (w6 h)]
 refine gO l (λi p=>[.l (p.1.map aw),.l (p.2.map aw),ii i]) lj (λp=>some [T.l (p.1.map aw),T.l (p.2.map aw)]) (s,[]) (λi p=>dv p.1=true∧p.2.length<=i) rfl (c_ hl) ⟨h,by simp⟩ ?_ ?_
 ·rintro i ⟨S,K⟩ hi ⟨hS,hK⟩
  have hS:dv S=true:=hS
  have hK:K.length<=i:=hK
  have mi:=hn.gt (n:=(i:Int)) (by omega) hi
  have e1:=avj S (gt l (i:Int)) hS mi
  have e2:=Jb (gt l (i:Int)).ae (gt l (i:Int)).kind (gt l (i:Int)).owner (gt l (i:Int)).key (gt l (i:Int)).seq (gt l (i:Int)).aX (gt l (i:Int)).cost (gt l (i:Int)).e_ mi
  refine⟨⟨by rw[DF];exact DE hS _,by unfold lj;split;(· show(K++[_]).length<=_;simp;omega);(· show K.length<=_;omega)⟩,λq=>?_⟩
  unfold lj
  show _=_
  cases hb:oN S (gt l (i:Int))with
  |true=>
   rw[if_pos hb]at e1
   simp(disch:=omega) only[↓pq,↓pj,ps,pz,↓reduceIte,af,ah,ai,aj,ak,ap,aq,au,av,qO_,hi,e1,e2]
  |false=>
   rw[if_neg (by rw[hb];simp)]at e1
   simp(disch:=omega) only[↓pq,↓pj,ps,pz,↓reduceIte,af,ah,ai,aj,ak,ap,aq,au,av,qO_,hi,e1,cE]
 ·rintro⟨S,K⟩ q ⟨hS,hK⟩
  simp(disch:=omega) only[↓pq,↓pj,ps,pz,↓reduceIte,af,ah,ai,aj,ak,ap,aq,au,av,qO_,]
theorem avn(x:Self)(h1:x.net.aB.length<=1048576)(h2:x.net.aG.length<=1048576)(h3:x.heard.length<=1048576)(h4:x.store.length<=1048576)(h5:aQ x.store):
  Ec [ii x.id,ii x.aV,ii x.net.n,.l (x.net.aB.map cT),.l (x.net.aG.map dj),.l (x.heard.map aE),.l (x.store.map aw)]=some [ii x.id,ii x.aV,ii x.net.n,.l (x.net.aB.map cT),.l (x.net.aG.map dj),.l (x.heard.map aE),.l (x.store.map aw)]:=by
 have hN:Qy [ii x.net.n,.l (x.net.aB.map cT),.l (x.net.aG.map dj)]=some [ii x.net.n,.l (x.net.aB.map cT),.l (x.net.aG.map dj)]:=by
  rw[abZ];simp(disch:=omega) only[↓pq,↓pj,ps,pz,↓reduceIte,af,ah,ai,aj,ak,ap,aq,au,av,GM]
 rw[ab0];simp(disch:=omega) only[↓pq,↓pj,ps,pz,↓reduceIte,af,ah,ai,aj,ak,ap,aq,au,av,GN,hN,re _ h3,Hf _ h4 h5]
theorem adN(x:Self)(h1:x.net.aB.length<=1048576)(h2:x.net.aG.length<=1048576)(h3:x.heard.length<=1048576)(h4:x.store.length<=1048576)(h5:aQ x.store):
  Ea [ii x.id,ii x.aV,ii x.net.n,.l (x.net.aB.map cT),.l (x.net.aG.map dj),.l (x.heard.map aE),.l (x.store.map aw)]=some [ii x.id,ii x.aV,ii x.net.n,.l (x.net.aB.map cT),.l (x.net.aG.map dj),.l (x.heard.map aE),.l (x.store.map aw)]:=by
 rw[abQ];simp(disch:=omega) only[↓pq,↓pj,ps,pz,↓reduceIte,af,ah,ai,aj,ak,ap,aq,au,av,Gz,Ek _ h4 h5]
theorem H7{x:Self}(h:jf x=true):dv x.store=true:=by
 unfold jf at h
 simp only[bL]at h
 exact h.2.2.2.2
theorem k3_{x:Self}(h:jf x=true){s:List ay}(hs:dv s=true):jf {x with store:=s}=true:=by
 unfold jf at*
 simp only[bL]at*
 exact⟨h.1,h.2.1,h.2.2.1,h.2.2.2.1,hs⟩
def uR(x:Self)(l:List ay):List ay×List ay:=if jf x=true then Eu x.store l else(x.store,[])
theorem avo(x:Self)(l:List ay)(h1:x.net.aB.length<=1048576)(h2:x.net.aG.length<=1048576)(h3:x.heard.length<=1048576)(h4:x.store.length<=1048576)(h5:aQ x.store)(hl:l.length<=1048576)(hn:aQ l):
  CU [ii x.id,ii x.aV,ii x.net.n,.l (x.net.aB.map cT),.l (x.net.aG.map dj),.l (x.heard.map aE),.l (x.store.map aw),.l (l.map aw)]=
   some [ii x.id,ii x.aV,ii x.net.n,.l (x.net.aB.map cT),.l (x.net.aG.map dj),.l (x.heard.map aE),.l ((uR x l).1.map aw),.l ((uR x l).2.map aw)]:=by
 have e1:=avn x h1 h2 h3 h4 h5
 have e2:=G9 x.id x.aV x.net.n x.net.aB x.net.aG x.heard x.store h1 h2 h3 h4 h5
 rw[show(⟨x.id,x.aV,⟨x.net.n,x.net.aB,x.net.aG⟩,x.heard,x.store⟩:Self)=x from rfl]at e2
 rw[arW]
 unfold uR
 cases hk:jf x with
 |false=>
  rw[hk]at e2
  simp(disch:=omega) only[↓pq,↓pj,ps,pz,↓reduceIte,af,ah,ai,aj,ak,ap,aq,au,av,G0,e1,e2,cE]
  rfl
 |true=>
  rw[hk]at e2
  simp(disch:=omega) only[↓pq,↓pj,ps,pz,↓reduceIte,af,ah,ai,aj,ak,ap,aq,au,av,G0,e1,e2,avm x.store l (H7 hk) hl hn]
theorem avp(x:Self)(l:List ay)(h1:x.net.aB.length<=1048576)(h2:x.net.aG.length<=1048576)(h3:x.heard.length<=1048576)(h4:x.store.length<=1048576)(h5:aQ x.store)(hl:l.length<=1048576)(hn:aQ l):
  CY [ii x.id,ii x.aV,ii x.net.n,.l (x.net.aB.map cT),.l (x.net.aG.map dj),.l (x.heard.map aE),.l (x.store.map aw),.l (l.map aw)]=
   some [ii x.id,ii x.aV,ii x.net.n,.l (x.net.aB.map cT),.l (x.net.aG.map dj),.l (x.heard.map aE),.l ((uR x l).1.map aw),.l ((uR x l).2.map aw)]:=by
 have e1:=adN x h1 h2 h3 h4 h5
 have e2:=C7 x.id x.aV x.net.n x.net.aB x.net.aG x.heard x.store h1 h2 h3 h4 h5
 rw[show(⟨x.id,x.aV,⟨x.net.n,x.net.aB,x.net.aG⟩,x.heard,x.store⟩:Self)=x from rfl]at e2
 rw[ass]
 unfold uR
 cases hk:jf x with
 |false=>
  rw[hk]at e2
  simp(disch:=omega) only[↓pq,↓pj,ps,pz,↓reduceIte,af,ah,ai,aj,ak,ap,aq,au,av,QP,G6,e1,e2,cE]
  rfl
 |true=>
  rw[hk]at e2
  have hS:=H7 hk
  have oX:=vI hS
  simp(disch:=omega) only[↓pq,↓pj,ps,pz,↓reduceIte,af,ah,ai,aj,ak,ap,aq,au,av,QP,G6,e1,e2]
  refine gO l (λi p=>[.l (p.2.map aw),ii i,.l (p.1.map aw),.l (x.store.map aw)]) lj (λp=>some [ii x.id,ii x.aV,ii x.net.n,T.l (x.net.aB.map cT),T.l (x.net.aG.map dj),T.l (x.heard.map aE),T.l (p.1.map aw),T.l (p.2.map aw)]) (x.store,[]) (λi p=>dv p.1=true∧p.2.length<=i) rfl (c_ hl) ⟨hS,by simp⟩ ?_ ?_
  ·rintro i ⟨S,K⟩ hi ⟨hS,hK⟩
   have hS:dv S=true:=hS
   have hK:K.length<=i:=hK
   have hSl:=vI hS
   have mi:=hn.gt (n:=(i:Int)) (by omega) hi
   have e1:=qr_ S (gt l (i:Int)) (by omega) (w6 hS) (qR hS) mi
   have e2:=AC (gt l (i:Int)).ae (gt l (i:Int)).kind (gt l (i:Int)).owner (gt l (i:Int)).key (gt l (i:Int)).seq (gt l (i:Int)).aX (gt l (i:Int)).cost (gt l (i:Int)).e_ mi
   refine⟨⟨by rw[DF];exact DE hS _,by unfold lj;split;(· show(K++[_]).length<=_;simp;omega);(· show K.length<=_;omega)⟩,λq=>?_⟩
   unfold lj
   unfold mz at e1
   cases hb:oN S (gt l (i:Int))with
   |true=>
    rw[if_pos hb,hb]at e1
    simp(disch:=omega) only[↓pq,↓pj,ps,pz,↓reduceIte,af,ah,ai,aj,ak,ap,aq,au,av,QP,hi,e1,e2]
   |false=>
    rw[if_neg (by rw[hb];simp),hb]at e1
    simp(disch:=omega) only[↓pq,↓pj,ps,pz,↓reduceIte,af,ah,ai,aj,ak,ap,aq,au,av,QP,hi,e1,cE]
  ·rintro⟨S,K⟩ q ⟨hS,hK⟩
   have hS:dv S=true:=hS
   have hSl:=vI hS
   simp(disch:=omega) only[↓pq,↓pj,ps,pz,↓reduceIte,af,ah,ai,aj,ak,ap,aq,au,av,QP,Ek S (by omega) (w6 hS)]
theorem PD(a b c d e:Int):Prim.ev (.lit 1 [true,true,true,true,true]) [ii a,ii b,ii c,ii d,ii e]=some (.l ([a,b,c,d,e].map aE)):=by simp[Prim.ev,qE,nT,eA,aE]
def adP(B:List Int)(o:Option (List T)):Prop:=
 ∃(r:ay) (i' h':Int),o=some [ii r.ae,ii r.kind,ii r.owner,ii r.key,ii r.seq,.l (r.aX.map eJ),ii r.cost,bb r.e_,.l (B.map gm),ii i',ii h']∧(eP r=true∧r.seq<=5∧r.owner<=4)∧0<=i'∧i'<=B.length
theorem avq{a o s:Int}{l:List cC}(ha:0<=a∧a<=2)(ho:1<=o∧o<=6)(hs:1<=s∧s<=100000)(hl:tH o l=true):eP ⟨a,1,o,0,s,l,0,false⟩=true:=by
 unfold eP
 simp only[bL,be]
 refine⟨⟨ho,hs⟩,?_⟩
 simp[be,ha,hl]
theorem avr{a o k s c:Int}(ha:0<=a∧a<=2)(ho:1<=o∧o<=6)(hk:1<=k∧k<=6)(hs:1<=s∧s<=100000)(hc:0<=c∧c<=60000):eP ⟨a,2,o,k,s,[],c,false⟩=true:=by
 unfold eP
 simp only[bL,be]
 refine⟨⟨ho,hs⟩,?_⟩
 simp[be,ha,hk,hc]
theorem avs{o k s c:Int}{f:Bool}(ho:1<=o∧o<=6)(hk:1<=k∧k<=9)(hs:1<=s∧s<=100000)(hc:(1<=c∧c<=1000)∨c=60000):eP ⟨9,3,o,k,s,[],c,f⟩=true:=by
 unfold eP
 simp only[bL,be]
 refine⟨⟨ho,hs⟩,?_⟩
 simp[be,hk,hc]
set_option maxHeartbeats 1000000 in
theorem PE{B:List Int}(hB:∀x∈B,rO x)(hl:B.length<=1048576){i:Int}(h:Int)(hi:0<=i)(aU:i<=B.length):adP B (Am [.l (B.map gm),ii i,ii h]):=by
 rw[apk]
 obtain⟨k,i,h,e1,r1,hi,aU⟩:=my hB hl h hi aU 3 (by omega) (by omega)
 obtain⟨o,i,h,e2,r2,hi,aU⟩:=my hB hl h hi aU 4 (by omega) (by omega)
 obtain⟨a,i,h,e3,r3,hi,aU⟩:=my hB hl h hi aU 3 (by omega) (by omega)
 obtain⟨s,i,h,e4,r4,hi,aU⟩:=my hB hl h hi aU 5 (by omega) (by omega)
 by_cases c1:1+k=1
 ·simp(disch:=omega) only[↓pq,↓pj,ps,pz,↓reduceIte,af,ah,ai,aj,ak,ap,aq,au,av,As,jo_,e1,e2,e3,e4,c1]
  refine xZ (adP B) (λm st=>∃(v:Nat) (i h:Int) (l:List cC),st=[ii ((v:Int)+1),.l (B.map gm),ii i,ii h,.l (l.map eJ)]∧v<=6∧(0<=i∧i<=B.length)∧(l.length<=v∧(l.Pairwise λx y=>x.to<y.to)∧∀x∈l,(1<=x.to∧x.to<=v)∧x.to≠1+o∧1<=x.cost∧x.cost<=1000)∧m=6-v) ?_ 6
   [ii 1,.l (B.map gm),ii i,ii h,.l []] rounds ⟨0,i,h,[],rfl,by omega,⟨hi,aU⟩,⟨by simp,.nil,by simp⟩,rfl⟩ (by unfold rounds;omega)
  rintro m st q ⟨v,i,h,l,rfl,hv,⟨hi,aU⟩,⟨pi,qe,Py⟩,rfl⟩ hq
  by_cases c2:(v:Int)+1<=6
  ·have same:(l.Pairwise λx y=>x.to<y.to)∧∀x∈l,(1<=x.to∧x.to<=((v+1:Nat):Int))∧x.to≠1+o∧1<=x.cost∧x.cost<=1000:=⟨qe,λx hx=>by have:=Py x hx;omega⟩
   by_cases c3:(v:Int)+1=1+o
   ·simp(disch:=omega) only[↓pq,↓pj,ps,pz,↓reduceIte,af,ah,ai,aj,ak,ap,aq,au,av,As,As,c2,eq_true c3]
    exact hq (6-(v+1)) _ (by omega) ⟨v+1,i,h,l,by rw[rG],by omega,⟨hi,aU⟩,⟨by omega,same⟩,rfl⟩
   ·obtain⟨f,i,h,e5,hi,aU⟩:=zR hB hl h hi aU 3 (by omega) (by omega)
    cases f with
    |false=>
     simp(disch:=omega) only[↓pq,↓pj,ps,pz,↓reduceIte,af,ah,ai,aj,ak,ap,aq,au,av,As,As,c2,c3,e5,cE]
     exact hq (6-(v+1)) _ (by omega) ⟨v+1,i,h,l,by rw[rG],by omega,⟨hi,aU⟩,⟨by omega,same⟩,rfl⟩
    |true=>
     obtain⟨c,i,h,e6,r6,hi,aU⟩:=my hB hl h hi aU 4 (by omega) (by omega)
     have PF:Prim.ev (.lit 2 [true,true]) [ii ((v:Int)+1),ii (1+c)]=some (.l ([(⟨(v:Int)+1,1+c⟩:cC)].map eJ)):=by simp[Prim.ev,qE,nT,eA,eJ]
     have PG:Prim.ev (.app true 2) [.l (l.map eJ),.l ([(⟨(v:Int)+1,1+c⟩:cC)].map eJ)]=some (.l ((l++[(⟨(v:Int)+1,1+c⟩:cC)]).map eJ)):=Ls (l:=l) (by omega)
     simp(disch:=omega) only[↓pq,↓pj,ps,pz,↓reduceIte,af,ah,ai,aj,ak,ap,aq,au,av,As,As,c2,c3,e5,e6,PF,PG]
     refine hq (6-(v+1)) _ (by omega) ⟨v+1,i,h,l++[⟨(v:Int)+1,1+c⟩],by rw[rG],by omega,⟨hi,aU⟩,⟨by simp;omega,?_,?_⟩,rfl⟩
     ·rw[List.pairwise_append]
      refine⟨qe,List.pairwise_singleton _ _,λx hx y hy=>?_⟩
      rw[List.mem_singleton]at hy
      rw[hy]
      have:=Py x hx
      show x.to<(v:Int)+1
      omega
     ·intro x hx
      rcases List.mem_append.1 hx with hx|hx
      ·have:=Py x hx;omega
      ·rw[List.mem_singleton]at hx
       rw[hx]
       exact⟨⟨by show 1<=(v:Int)+1;omega,by show(v:Int)+1<=_;omega⟩,c3,by show 1<=1+c;omega,by show 1+c<=1000;omega⟩
  ·simp(disch:=omega) only[↓pq,↓pj,ps,pz,↓reduceIte,af,ah,ai,aj,ak,ap,aq,au,av,As,As,c2]
   refine⟨⟨a,1,1+o,0,1+s,l,0,false⟩,i,h,rfl,⟨avq (by omega) (by omega) (by omega) (Pn (λx hx=>?_) qe),by show 1+s<=5;omega,by show 1+o<=4;omega⟩,hi,aU⟩
   have:=Py x hx
   omega
 ·by_cases c2:1+k=2
  ·obtain⟨y,i,h,e5,r5,hi,aU⟩:=my hB hl h hi aU 5 (by omega) (by omega)
   obtain⟨c,i,h,e6,r6,hi,aU⟩:=zS hB hl h hi aU [0,1,2,5,60000] (by simp) (by simp)
   have r6:0<=c∧c<=60000:=by simp at r6;omega
   simp(disch:=omega) only[↓pq,↓pj,ps,pz,↓reduceIte,af,ah,ai,aj,ak,ap,aq,au,av,As,jo_,e1,e2,e3,e4,c2,e5,PD,e6]
   exact⟨⟨a,2,1+o,1+y,1+s,[],c,false⟩,i,h,rfl,⟨avr (by omega) (by omega) (by omega) (by omega) r6,by show 1+s<=5;omega,by show 1+o<=4;omega⟩,hi,aU⟩
  ·have c3:1+k=3:=by omega
   obtain⟨y,i,h,e5,r5,hi,aU⟩:=my hB hl h hi aU 3 (by omega) (by omega)
   obtain⟨c,i,h,e6,r6,hi,aU⟩:=zS hB hl h hi aU [1,2,5,60000] (by simp) (by simp)
   obtain⟨f,i,h,e7,hi,aU⟩:=zR hB hl h hi aU 2 (by omega) (by omega)
   have r6:(1<=c∧c<=1000)∨c=60000:=by simp at r6;omega
   simp(disch:=omega) only[↓pq,↓pj,ps,pz,↓reduceIte,af,ah,ai,aj,ak,ap,aq,au,av,As,jo_,e1,e2,e3,e4,c3,e5,vG,e6,e7]
   exact⟨⟨9,3,1+o,1+y,1+s,[],c,f⟩,i,h,rfl,⟨avs (by omega) (by omega) (by omega) r6,by show 1+s<=5;omega,by show 1+o<=4;omega⟩,hi,aU⟩
def mA(n:Nat)(s:List ay):Prop:=dv s=true∧s.length<=n∧(∀r∈s,r.seq<=5)∧(s.filter qw).length+(if n<100 then 0 else 119)<=n
theorem mA.ins{n:Nat}{s:List ay}(h:mA n s){r:ay}(hr:r.seq<=5)(hn:n≠99):mA (n+1) (mz s r):=by
 refine⟨DE h.1 r,?_,λx hx=>?_,?_⟩
 ·have:=h.2.1
  unfold mz
  split
  ·have:=Hi s r;omega
  ·omega
 ·unfold mz at hx
  split at hx
  ·rcases wN hx with rfl|hx
   ·exact hr
   ·exact h.2.2.1 x hx
  ·exact h.2.2.1 x hx
 ·have h3:=h.2.2.2
  have h4:=ac2 s r qw
  have:((mz s r).filter qw).length<=(s.filter qw).length+1:=by
   unfold mz
   split
   ·split at h4<;>omega
   ·omega
  split at h3<;>split<;>omega
theorem mA.nil:mA 0 []:=⟨rfl,by simp,by simp,by simp⟩
theorem mA.mono{n m:Nat}{s:List ay}(h:mA n s)(hm:n<=m)(hk:n+119<=m∨100<=n∨m<100):mA m s:=by
 refine⟨h.1,Nat.le_trans h.2.1 hm,h.2.2.1,?_⟩
 have h3:=h.2.2.2
 have h4:(s.filter qw).length<=n:=Nat.le_trans (List.length_filter_le _ _) h.2.1
 split at h3<;>split<;>omega
theorem PH{B:List Int}(hB:∀x∈B,rO x)(hl:B.length<=1048576){i:Int}(h:Int)(hi:0<=i)(aU:i<=B.length):
  ∃(s:List ay) (i' h':Int),Cm [.l (B.map gm),ii i,ii h]=some [.l (s.map aw),.l (B.map gm),ii i',ii h']∧mA 11 s∧0<=i'∧i'<=B.length:=by
 rw[apo];simp(disch:=omega) only[↓pq,↓pj,ps,pz,↓reduceIte,af,ah,ai,aj,ak,ap,aq,au,av,jD_,M9]
 refine xZ (λo=>∃(s:List ay) (i' h':Int),o=some [.l (s.map aw),.l (B.map gm),ii i',ii h']∧mA 11 s∧0<=i'∧i'<=B.length)
  (λm st=>∃(k:Nat) (i h:Int) (s:List ay),st=[.l (s.map aw),ii k,.l (B.map gm),ii i,ii h]∧k<=11∧(0<=i∧i<=B.length)∧mA k s∧m=11-k) ?_ 11 [.l [],ii 0,.l (B.map gm),ii i,ii h] rounds ⟨0,i,h,[],rfl,by omega,⟨hi,aU⟩,mA.nil,rfl⟩ (by unfold rounds;omega)
 rintro m st q ⟨k,i,h,s,rfl,hk,⟨hi,aU⟩,hs,rfl⟩ hq
 obtain⟨d,i,h,e1,r1,hi,aU⟩:=my hB hl h hi aU 12 (by omega) (by omega)
 by_cases c1:(k:Int)<d
 ·obtain⟨r,i,h,e2,⟨r2,r3,_⟩,hi,aU⟩:=PE hB hl h hi aU
  have oX:=hs.2.1
  have e3:=qr_ s r (by omega) (w6 hs.1) (qR hs.1) (by have:=Dr r2;omega)
  simp(disch:=omega) only[↓pq,↓pj,ps,pz,↓reduceIte,af,ah,ai,aj,ak,ap,aq,au,av,jD_,e1,c1,e2,e3]
  exact hq (11-(k+1)) _ (by omega) ⟨k+1,i,h,mz s r,by rw[rG],by omega,⟨hi,aU⟩,hs.ins r3 (by omega),rfl⟩
 ·simp(disch:=omega) only[↓pq,↓pj,ps,pz,↓reduceIte,af,ah,ai,aj,ak,ap,aq,au,av,jD_,e1,c1]
  exact⟨s,i,h,rfl,hs.mono hk (.inr (.inr (by decide))),hi,aU⟩
def pJ(P:List (Int×Int)):List Int:=P.flatMap λp=>[p.1,p.2]
theorem H8(P:List (Int×Int)):(pJ P).length=2*P.length:=by
 induction P with
 |nil=>rfl
 |cons p P ih=>show(p.1::p.2::pJ P).length=_;simp[ih];omega
theorem adQ:∀(P:List (Int×Int)) (k:Nat) (h:k<P.length),(pJ P)[2*k]?=some P[k].1∧(pJ P)[2*k+1]?=some P[k].2
 |p::P,0,_=>⟨rfl,rfl⟩
 |p::P,k+1,h=>by
  have ih:=adQ P k (by simpa using h)
  show(p.1::p.2::pJ P)[2*(k+1)]?=_∧(p.1::p.2::pJ P)[2*(k+1)+1]?=_
  rw[show 2*(k+1)=2*k+1+1 by omega]
  simpa using ih
def zW(p q:Int×Int):Prop:=p.1<q.1∨p.1=q.1∧p.2<q.2
theorem adR{ok:Int->Int->Bool}{P:List (Int×Int)}(h1:P.Pairwise zW)(h2:∀p∈P,ok p.1 p.2=true):xQ ok (pJ P)=true:=by
 unfold xQ
 rw[bW,H8]
 intro k hk
 have mf:k<P.length:=by omega
 have g:∀k:Nat,(h:k<P.length)->gt (pJ P) (2*(k:Int))=P[k].1∧gt (pJ P) (2*(k:Int)+1)=P[k].2:=by
  intro k h
  have:=adQ P k h
  rw[show(2*(k:Int))=((2*k:Nat):Int) by omega,show(((2*k:Nat):Int)+1)=((2*k+1:Nat):Int) by omega]
  exact⟨Lr this.1,Lr this.2⟩
 obtain⟨g1,g2⟩:=g k mf
 rw[g1,g2]
 simp only[bL,Bool.or_eq_true,Bool.not_eq_true',decide_eq_false_iff_not,decide_eq_true_eq]
 refine⟨h2 _ (List.getElem_mem mf),?_⟩
 rcases Nat.eq_zero_or_pos k with h0|h0
 ·exact .inl (by omega)
 ·right
  obtain⟨g3,g4⟩:=g (k-1) (by omega)
  have e:2*((k-1:Nat):Int)=2*(k:Int)-2:=by omega
  rw[e]at g3
  rw[show 2*((k-1:Nat):Int)+1=2*(k:Int)-1 by omega]at g4
  rw[g3,g4]
  exact List.pairwise_iff_getElem.1 h1 (k-1) k (by omega) mf (by omega)
def rk(B:List Int)(o:Option (List T)):Prop:=
 ∃(x:Self) (i' h':Int),o=some [ii x.id,ii x.aV,ii x.net.n,.l (x.net.aB.map cT),.l (x.net.aG.map dj),.l (x.heard.map aE),.l (x.store.map aw),.l (B.map gm),ii i',ii h']∧(jf x=true∧x.aV<=1∧mA 132 x.store∧x.net.aG.length<=2∧2<=x.net.n)∧0<=i'∧i'<=B.length
section
variable {B:List Int} (hB:∀x∈B,rO x) (hl:B.length<=1048576) {x:Net} (hx:n7 x=true∧2<=x.n∧x.aG.length<=2) {id aV:Int} (hid:1<=id∧id<=x.n) (iS:0<=aV∧aV<=1)
 {P:List (Int×Int)} (zX:P.Pairwise zW) (zY:∀p∈P,decide (0<=dJ (eE id p.1 p.2) x.aB)=true)
include hB hl hx hid iS zX zY
theorem adS{s:List ay}(hs:mA 130 s){i:Int}(h:Int)(hi:0<=i)(aU:i<=B.length):
  rk B (iter (tw n4 Am An (ii x.n) (.l (x.aB.map cT)) (.l (x.aG.map dj)) (ii aV) (ii id) (.l ((pJ P).map aE))) rounds [ii 0,.l (s.map aw),.l (B.map gm),ii i,ii h]):=by
 refine xZ (rk B) (λm st=>∃(k:Nat) (i h:Int) (s:List ay),st=[ii k,.l (s.map aw),.l (B.map gm),ii i,ii h]∧k<=2∧(0<=i∧i<=B.length)∧mA (130+k) s∧m=2-k) ?_ 2 _ rounds ⟨0,i,h,s,rfl,by omega,⟨hi,aU⟩,hs,rfl⟩ (by unfold rounds;omega)
 rintro m st q ⟨k,i,h,s,rfl,hk,⟨hi,aU⟩,hs,rfl⟩ hq
 obtain⟨d,i,h,e1,r1,hi,aU⟩:=my hB hl h hi aU 3 (by omega) (by omega)
 by_cases c1:(k:Int)<d
 ·obtain⟨r,i,h,e2,⟨r2,r3,_⟩,hi,aU⟩:=PE hB hl h hi aU
  have oX:=hs.2.1
  have e3:=qr_ s r (by omega) (w6 hs.1) (qR hs.1) (by have:=Dr r2;omega)
  simp(disch:=omega) only[↓pq,↓pj,ps,pz,↓reduceIte,af,ah,ai,aj,ak,ap,aq,au,av,tw,sP,tA,sQ,uE,tw,e1,c1,e2,e3]
  exact hq (2-(k+1)) _ (by omega) ⟨k+1,i,h,mz s r,by rw[rG],by omega,⟨hi,aU⟩,hs.ins r3 (by omega),rfl⟩
 ·simp(disch:=omega) only[↓pq,↓pj,ps,pz,↓reduceIte,af,ah,ai,aj,ak,ap,aq,au,av,tw,sP,tA,sQ,uE,tw,e1,c1]
  refine⟨⟨id,aV,x,pJ P,s⟩,i,h,rfl,⟨?_,iS.2,hs.mono (by omega) (by omega),hx.2.2,hx.2.1⟩,hi,aU⟩
  have hp:=adR (ok:=λv a=>decide (0<=dJ (eE id v a) x.aB)) zX zY
  unfold jf
  simp only[bL,be,decide_eq_true_eq]
  exact⟨hx.1,hid,by omega,⟨by rw[H8];omega,hp⟩,hs.1⟩
theorem avt{L:List Bool}(hL:L.length=x.aB.length){i:Int}(h:Int)(hi:0<=i)(aU:i<=B.length):
  rk B (iter (sP rounds LV n4 uD Am An Cm (ii x.n) (.l (x.aB.map cT)) (.l (x.aG.map dj)) (ii aV) (ii id) (.l ((pJ P).map aE)) (.l (L.map iI))) rounds [ii 0,.l (B.map gm),ii i,ii h,.l ((List.replicate x.n.toNat false).map iI)]):=by
 have hn:=PA hx.1
 have Bi:=(Pg hx.1).2
 refine xZ (rk B) (λm st=>∃(k:Nat) (i h:Int) (U:List Bool),st=[ii k,.l (B.map gm),ii i,ii h,.l (U.map iI)]∧(k:Int)<=x.n∧(0<=i∧i<=B.length)∧(U.length:Int)=x.n∧m=x.n.toNat-k) ?_ x.n.toNat _ rounds ⟨0,i,h,_,rfl,by omega,⟨hi,aU⟩,by simp;omega,rfl⟩ (by unfold rounds;omega)
 rintro m st q ⟨k,i,h,U,rfl,hk,⟨hi,aU⟩,hU,rfl⟩ hq
 by_cases c1:(k:Int)<U.length
 ·obtain⟨f,i,h,e1,hi,aU⟩:=zR hB hl h hi aU 8 (by omega) (by omega)
  have e2:=OM (l:=U) (n:=(k:Int)) (x:=!f) (by omega) c1
  simp(disch:=omega) only[↓pq,↓pj,ps,pz,↓reduceIte,af,ah,ai,aj,ak,ap,aq,au,av,tw,sP,tA,sQ,uE,sP,c1,e1,e2]
  exact hq (x.n.toNat-(k+1)) _ (by omega) ⟨k+1,i,h,_,by rw[rG],by omega,⟨hi,aU⟩,by simpa using hU,rfl⟩
 ·have qV:wV x L U=true:=by unfold wV;simp[hx.1,hL,hU]
  have eI:=at7 x.n x.aB x.aG L U (by omega) (by have:=hx.2.2;omega)
  rw[show(⟨x.n,x.aB,x.aG⟩:Net)=x from rfl,if_pos qV]at eI
  have hS:=at4 (L:=L) (U:=U) hx.1
  have hR:=avd (L:=L) (U:=U) hx.1
  have hI:mA 130 (zN x L U):=⟨hS.ok (by decide),hS.len,λr hr=>by have:=(hR r hr).2.1;omega,by have:=hS.2.2;rw[if_neg (by decide)];omega⟩
  obtain⟨f,i,h,e1,hi,aU⟩:=zR hB hl h hi aU 3 (by omega) (by omega)
  cases f with
  |false=>
   simp(disch:=omega) only[↓pq,↓pj,ps,pz,↓reduceIte,af,ah,ai,aj,ak,ap,aq,au,av,tw,sP,tA,sQ,uE,sP,c1,eI,e1,cE]
   exact adS hB hl hx hid iS zX zY hI h hi aU
  |true=>
   obtain⟨s,i,h,e2,hs,hi,aU⟩:=PH hB hl h hi aU
   simp(disch:=omega) only[↓pq,↓pj,ps,pz,↓reduceIte,af,ah,ai,aj,ak,ap,aq,au,av,tw,sP,tA,sQ,uE,sP,c1,eI,e1,e2]
   exact adS hB hl hx hid iS zX zY (hs.mono (by omega) (by omega)) h hi aU
theorem avu{i:Int}(h:Int)(hi:0<=i)(aU:i<=B.length):
  rk B (iter (tA rounds LV n4 uD Am An Cm (ii x.n) (.l (x.aB.map cT)) (.l (x.aG.map dj)) (ii aV) (ii id) (.l ((pJ P).map aE)) (.l ((List.replicate x.n.toNat false).map iI))) rounds [ii 0,.l (B.map gm),ii i,ii h,.l ((List.replicate x.aB.length false).map iI)]):=by
 have hn:=PA hx.1
 have Bi:=(Pg hx.1).2
 refine xZ (rk B) (λm st=>∃(k:Nat) (i h:Int) (L:List Bool),st=[ii k,.l (B.map gm),ii i,ii h,.l (L.map iI)]∧k<=x.aB.length∧(0<=i∧i<=B.length)∧L.length=x.aB.length∧m=x.aB.length-k) ?_ x.aB.length _ rounds ⟨0,i,h,_,rfl,by omega,⟨hi,aU⟩,by simp,rfl⟩ (by unfold rounds;omega)
 rintro m st q ⟨k,i,h,L,rfl,hk,⟨hi,aU⟩,hL,rfl⟩ hq
 by_cases c1:(k:Int)<L.length
 ·obtain⟨f,i,h,e1,hi,aU⟩:=zR hB hl h hi aU 6 (by omega) (by omega)
  have e2:=OM (l:=L) (n:=(k:Int)) (x:=!f) (by omega) c1
  simp(disch:=omega) only[↓pq,↓pj,ps,pz,↓reduceIte,af,ah,ai,aj,ak,ap,aq,au,av,tw,sP,tA,sQ,uE,tA,c1,e1,e2]
  exact hq (x.aB.length-(k+1)) _ (by omega) ⟨k+1,i,h,_,by rw[rG],by omega,⟨hi,aU⟩,by simpa using hL,rfl⟩
 ·simp(disch:=omega) only[↓pq,↓pj,ps,pz,↓reduceIte,af,ah,ai,aj,ak,ap,aq,au,av,tw,sP,tA,sQ,uE,tA,c1]
  exact avt hB hl hx hid iS zX zY hL h hi aU
end
theorem avv{B:List Int}(hB:∀x∈B,rO x)(hl:B.length<=1048576){i:Int}(h:Int)(hi:0<=i)(aU:i<=B.length):rk B (XC [.l (B.map gm),ii i,ii h]):=by
 rw[apr]
 obtain⟨x,i,h,e1,hx,hi,aU⟩:=au_ hB hl h hi aU
 have hn:=PA hx.1
 have Bi:=Pg hx.1
 obtain⟨aV,i,h,e2,iS,hi,aU⟩:=my hB hl h hi aU 2 (by omega) (by omega)
 obtain⟨d,i,h,e3,hd,hi,aU⟩:=my hB hl h hi aU x.n (by omega) (by omega)
 obtain⟨id,avw⟩:∃id,id=1+d:=⟨_,rfl⟩
 have hid:1<=id∧id<=x.n:=by omega
 simp(disch:=omega) only[↓pq,↓pj,ps,pz,↓reduceIte,af,ah,ai,aj,ak,ap,aq,au,av,tw,sP,tA,sQ,uE,M_,e1,e2,e3,<-avw]
 refine xZ (rk B) (λm st=>∃(v:Nat) (i h:Int) (P:List (Int×Int)),st=[ii ((v:Int)+1),.l (B.map gm),ii i,ii h,.l ((pJ P).map aE)]∧(v:Int)<=x.n∧(0<=i∧i<=B.length)∧(P.length<=3*v∧P.Pairwise zW∧(∀p∈P,decide (0<=dJ (eE id p.1 p.2) x.aB)=true)∧∀p∈P,p.1<=v)∧m=x.n.toNat-v)
  ?_ x.n.toNat [ii 1,.l (B.map gm),ii i,ii h,.l []] rounds ⟨0,i,h,[],rfl,by omega,⟨hi,aU⟩,⟨by simp,.nil,by simp,by simp⟩,rfl⟩ (by unfold rounds;omega)
 rintro m st q ⟨v,i,h,P,rfl,hv,⟨hi,aU⟩,⟨hP0,zX,zY,PI⟩,rfl⟩ hq
 by_cases c1:(v:Int)+1<=x.n
 ·simp(disch:=omega) only[↓pq,↓pj,ps,pz,↓reduceIte,af,ah,ai,aj,ak,ap,aq,au,av,tw,sP,tA,sQ,uE,uE,c1]
  refine xZ (rk B) (λm st=>∃(a:Nat) (i h:Int) (P:List (Int×Int)),st=[ii a,.l (B.map gm),ii i,ii h,.l ((pJ P).map aE)]∧a<=3∧(0<=i∧i<=B.length)∧(P.length<=3*v+a∧P.Pairwise zW∧(∀p∈P,decide (0<=dJ (eE id p.1 p.2) x.aB)=true)∧∀p∈P,p.1<=v∨p.1=(v:Int)+1∧p.2<a)∧m=3-a)
   ?_ 3 [ii 0,.l (B.map gm),ii i,ii h,.l ((pJ P).map aE)] rounds ⟨0,i,h,P,rfl,by omega,⟨hi,aU⟩,⟨by omega,zX,zY,λp hp=>.inl (PI p hp)⟩,rfl⟩ (by unfold rounds;omega)
  clear hP0 zX zY PI
  rintro m st q' ⟨a,i,h,P,rfl,ha,⟨hi,aU⟩,⟨hP0,zX,zY,PI⟩,rfl⟩ j6
  have e4:=I_ (ii x.n) (.l (x.aG.map dj)) x.aB id ((v:Int)+1) a (by omega)
  by_cases c2:(a:Int)<=2
  ·have bw:∀i h:Int,(0<=i∧i<=B.length)->rk B (q' [ii (a+1),.l (B.map gm),ii i,ii h,.l ((pJ P).map aE)]):=λi h hi=>j6 (3-(a+1)) _ (by omega) ⟨a+1,i,h,P,by rw[rG],by omega,hi,⟨by omega,zX,zY,λp hp=>by have:=PI p hp;omega⟩,rfl⟩
   by_cases c3:lg x.aB id ((v:Int)+1) a>0
   ·obtain⟨f,i,h,e5,hi,aU⟩:=zR hB hl h hi aU 4 (by omega) (by omega)
    cases f with
    |true=>
     simp(disch:=omega) only[↓pq,↓pj,ps,pz,↓reduceIte,af,ah,ai,aj,ak,ap,aq,au,av,tw,sP,tA,sQ,uE,sQ,c2,e4,c3,e5,Bool.not_true,cE]
     exact bw i h ⟨hi,aU⟩
    |false=>
     have vj:=H8 P
     have e6:=Vy (l:=pJ P) (x:=(v:Int)+1) (y:=(a:Int)) (by omega)
     have cV:0<=dJ (eE id ((v:Int)+1) a) x.aB:=by
      have:=QQ Bi.1 id ((v:Int)+1) a
      rcases Int.lt_or_le (dJ (eE id ((v:Int)+1) a) x.aB) 0 with h0|h0
      ·have:=this.2 h0;omega
      ·exact h0
     simp(disch:=omega) only[↓pq,↓pj,ps,pz,↓reduceIte,af,ah,ai,aj,ak,ap,aq,au,av,tw,sP,tA,sQ,uE,sQ,c2,e4,c3,e5,Bool.not_false,e6]
     refine j6 (3-(a+1)) _ (by omega) ⟨a+1,i,h,P++[((v:Int)+1,(a:Int))],?_,by omega,⟨hi,aU⟩,⟨by simp;omega,?_,?_,?_⟩,rfl⟩
     ·rw[rG,show pJ (P++[((v:Int)+1,(a:Int))])=pJ P++[(v:Int)+1,(a:Int)] by simp[pJ]]
     ·rw[List.pairwise_append]
      refine⟨zX,List.pairwise_singleton _ _,λp hp p' qL=>?_⟩
      rw[List.mem_singleton]at qL
      rw[qL]
      have:=PI p hp
      show p.1<(v:Int)+1∨p.1=(v:Int)+1∧p.2<(a:Int)
      omega
     ·intro p hp
      rcases List.mem_append.1 hp with hp|hp
      ·exact zY p hp
      ·rw[List.mem_singleton.1 hp];simpa using cV
     ·intro p hp
      rcases List.mem_append.1 hp with hp|hp
      ·have:=PI p hp;omega
      ·rw[List.mem_singleton.1 hp];exact .inr ⟨rfl,by show(a:Int)<((a+1:Nat):Int);omega⟩
   ·simp(disch:=omega) only[↓pq,↓pj,ps,pz,↓reduceIte,af,ah,ai,aj,ak,ap,aq,au,av,tw,sP,tA,sQ,uE,sQ,c2,e4,c3]
    exact bw i h ⟨hi,aU⟩
  ·simp(disch:=omega) only[↓pq,↓pj,ps,pz,↓reduceIte,af,ah,ai,aj,ak,ap,aq,au,av,tw,sP,tA,sQ,uE,sQ,c2]
   exact hq (x.n.toNat-(v+1)) _ (by omega) ⟨v+1,i,h,P,by rw[rG],by omega,⟨hi,aU⟩,⟨by omega,zX,zY,λp hp=>by have:=PI p hp;omega⟩,rfl⟩
 ·have m1:=wP (enc:=iI) (n:=x.aB.length) (x:=false) (vs:=[bb false]) (by omega) rfl
  have m2:=wP (enc:=iI) (n:=x.n.toNat) (x:=false) (vs:=[bb false]) (by omega) rfl
  rw[show((x.n.toNat:Nat):Int)=x.n by omega]at m2
  simp(disch:=omega) only[↓pq,↓pj,ps,pz,↓reduceIte,af,ah,ai,aj,ak,ap,aq,au,av,tw,sP,tA,sQ,uE,uE,c1,m1,m2]
  exact avu hB hl hx hid (by omega) zX zY h hi aU
theorem avx(a b c:Int):Prim.ev (.lit 1 [true,true,true]) [ii a,ii b,ii c]=some (.l ([a,b,c].map aE)):=by simp[Prim.ev,qE,nT,eA,aE]
theorem adT(a b c d e f:Int):Prim.ev (.lit 1 [true,true,true,true,true,true]) [ii a,ii b,ii c,ii d,ii e,ii f]=some (.l ([a,b,c,d,e,f].map aE)):=by simp[Prim.ev,qE,nT,eA,aE]
def avy(B:List Int)(o:Option (List T)):Prop:=
 ∃(r:ay) (i' h':Int),o=some [ii r.ae,ii r.kind,ii r.owner,ii r.key,ii r.seq,.l (r.aX.map eJ),ii r.cost,bb r.e_,.l (B.map gm),ii i',ii h']∧r.aX.length<=7∧0<=i'∧i'<=B.length
set_option maxHeartbeats 1000000 in
theorem avz{B:List Int}(hB:∀x∈B,rO x)(hl:B.length<=1048576){i:Int}(h:Int)(hi:0<=i)(aU:i<=B.length):avy B (Cs [.l (B.map gm),ii i,ii h]):=by
 rw[ap0]
 obtain⟨r,i,h,e1,⟨hr,_,_⟩,hi,aU⟩:=PE hB hl h hi aU
 have hn:=Dr hr
 obtain⟨k,i,h,e2,hk,hi,aU⟩:=my hB hl h hi aU 30 (by omega) (by omega)
 by_cases c0:k=0
 ·obtain⟨c,i,h,e3,_,hi,aU⟩:=zS hB hl h hi aU [-1,3,9,0] (by simp) (by simp)
  simp(disch:=omega) only[↓pq,↓pj,ps,pz,↓reduceIte,af,ah,ai,aj,ak,ap,aq,au,av,C0,e1,e2,c0,vG,e3]
  exact⟨{r with ae:=c},i,h,rfl,(by show r.aX.length<=7;omega),hi,aU⟩
 by_cases c1:k=1
 ·obtain⟨c,i,h,e3,_,hi,aU⟩:=zS hB hl h hi aU [0,1,2,3,4] (by simp) (by simp)
  simp(disch:=omega) only[↓pq,↓pj,ps,pz,↓reduceIte,af,ah,ai,aj,ak,ap,aq,au,av,C0,e1,e2,c1,PD,e3]
  exact⟨{r with kind:=c},i,h,rfl,(by show r.aX.length<=7;omega),hi,aU⟩
 by_cases c2:k=2
 ·obtain⟨c,i,h,e3,_,hi,aU⟩:=zS hB hl h hi aU [0,6,7] (by simp) (by simp)
  simp(disch:=omega) only[↓pq,↓pj,ps,pz,↓reduceIte,af,ah,ai,aj,ak,ap,aq,au,av,C0,e1,e2,c2,avx,e3]
  exact⟨{r with owner:=c},i,h,rfl,(by show r.aX.length<=7;omega),hi,aU⟩
 by_cases c3:k=3
 ·obtain⟨c,i,h,e3,_,hi,aU⟩:=zS hB hl h hi aU [-1,0,6,7,9,10] (by simp) (by simp)
  simp(disch:=omega) only[↓pq,↓pj,ps,pz,↓reduceIte,af,ah,ai,aj,ak,ap,aq,au,av,C0,e1,e2,c3,adT,e3]
  exact⟨{r with key:=c},i,h,rfl,(by show r.aX.length<=7;omega),hi,aU⟩
 by_cases c4:k=4
 ·obtain⟨c,i,h,e3,_,hi,aU⟩:=zS hB hl h hi aU [0,-1,100000,100001] (by simp) (by simp)
  simp(disch:=omega) only[↓pq,↓pj,ps,pz,↓reduceIte,af,ah,ai,aj,ak,ap,aq,au,av,C0,e1,e2,c4,vG,e3]
  exact⟨{r with seq:=c},i,h,rfl,(by show r.aX.length<=7;omega),hi,aU⟩
 by_cases c5:k=5
 ·obtain⟨d,i,h,e3,_,hi,aU⟩:=my hB hl h hi aU 8 (by omega) (by omega)
  obtain⟨c,i,h,e4,_,hi,aU⟩:=zS hB hl h hi aU [0,1,1000,1001] (by simp) (by simp)
  have PF:Prim.ev (.lit 2 [true,true]) [ii d,ii c]=some (.l ([(⟨d,c⟩:cC)].map eJ)):=by simp[Prim.ev,qE,nT,eA,eJ]
  have PG:Prim.ev (.app true 2) [.l (r.aX.map eJ),.l ([(⟨d,c⟩:cC)].map eJ)]=some (.l ((r.aX++[(⟨d,c⟩:cC)]).map eJ)):=Ls (l:=r.aX) (by omega)
  simp(disch:=omega) only[↓pq,↓pj,ps,pz,↓reduceIte,af,ah,ai,aj,ak,ap,aq,au,av,C0,e1,e2,c5,e3,vG,e4,PF,PG]
  exact⟨{r with aX:=r.aX++[⟨d,c⟩]},i,h,rfl,by simp;omega,hi,aU⟩
 by_cases c6:k=6
 ·obtain⟨c,i,h,e3,_,hi,aU⟩:=zS hB hl h hi aU [-1,0,1000,1001,60000,60001] (by simp) (by simp)
  simp(disch:=omega) only[↓pq,↓pj,ps,pz,↓reduceIte,af,ah,ai,aj,ak,ap,aq,au,av,C0,e1,e2,c6,adT,e3]
  exact⟨{r with cost:=c},i,h,rfl,(by show r.aX.length<=7;omega),hi,aU⟩
 by_cases c7:k=7
 ·simp(disch:=omega) only[↓pq,↓pj,ps,pz,↓reduceIte,af,ah,ai,aj,ak,ap,aq,au,av,C0,e1,e2,c7]
  exact⟨{r with e_:=!r.e_},i,h,rfl,(by show r.aX.length<=7;omega),hi,aU⟩
 ·simp(disch:=omega) only[↓pq,↓pj,ps,pz,↓reduceIte,af,ah,ai,aj,ak,ap,aq,au,av,C0,e1,e2,c0,c1,c2,c3,c4,c5,c6,c7]
  exact⟨r,i,h,rfl,by omega,hi,aU⟩
def pK(r:ay):ay:=⟨r.ae,r.kind,r.owner,r.key,r.seq,[],if r.kind=3 then 1 else 0,false⟩
theorem adU(a k o y s:Int)(t5 t6 t7:T):Gb [ii a,ii k,ii o,ii y,ii s,t5,t6,t7]=some [ii a,ii k,ii o,ii y,ii s,.l [],ii (if k=3 then 1 else 0),bb false]:=by
 rw[apS]
 by_cases h:k=3
 ·subst h;simp(disch:=omega) only[↓pq,↓pj,ps,pz,↓reduceIte,af,ah,ai,aj,ak,ap,aq,au,av,GJ]
 ·simp(disch:=omega) only[↓pq,↓pj,ps,pz,↓reduceIte,af,ah,ai,aj,ak,ap,aq,au,av,GJ,h]
def vJ(l:List ay)(i:Nat):List ay:=(l.take i).map pK++l.drop i
theorem PJ(l:List ay)(i:Nat):(vJ l i).length=l.length:=by unfold vJ;simp;omega
theorem avA{l:List ay}{i:Nat}(h:i<l.length):gt (vJ l i) (i:Int)=gt l (i:Int):=by
 rw[eh (l:=vJ l i) (by rw[PJ];exact h),eh h]
 unfold vJ
 rw[List.getElem_append_right (by rw[List.length_map,List.length_take];omega)]
 simp[Nat.min_eq_left (Nat.le_of_lt h)]
theorem avB{l:List ay}{i:Nat}(h:i<l.length):(vJ l i).set i (pK (gt l (i:Int)))=vJ l (i+1):=by
 have hl:((l.take i).map pK).length=i:=by rw[List.length_map,List.length_take];omega
 unfold vJ
 rw[eh h,List.set_append_right _ _ (by omega),hl,Nat.sub_self,List.drop_eq_getElem_cons h,List.set_cons_zero,List.take_add_one,List.getElem?_eq_getElem h]
 simp only[Option.toList,List.map_append,List.map_cons,List.map_nil,List.append_assoc,List.cons_append,List.nil_append]
theorem H9(s:List ay)(ar:Int)(h:s.length<=1048576)(hn:aQ s):Gc [.l (s.map aw),ii ar]=some [.l (((scope s ar).map pK).map aw)]:=by
 have hl:(scope s ar).length<=s.length:=List.length_filter_le _ _
 rw[apU];simp(disch:=omega) only[↓pq,↓pj,ps,pz,↓reduceIte,af,ah,ai,aj,ak,ap,aq,au,av,kG_,Nj,zo s ar h hn]
 generalize scope s ar=l at hl
 refine C' (λi=>[ii (i:Int),.l ((vJ l i).map aw)]) l.length rfl (c_ (by omega)) ?_ ?_
 ·intro i hi q
  have aU:i<l.length:=by omega
  have g0:=avA aU
  have hL:=PJ l i
  have hs:=avB aU
  have p:Prim.ev (.put false 8 0 8) [.l ((vJ l i).map aw),ii (i:Int),ii (gt l (i:Int)).ae,ii (gt l (i:Int)).kind,ii (gt l (i:Int)).owner,ii (gt l (i:Int)).key,ii (gt l (i:Int)).seq,.l [],ii (if(gt l (i:Int)).kind=3 then 1 else 0),bb false]=some (.l ((vJ l (i+1)).map aw)):=by
   have:=AD (enc:=aw) (sc:=false) (w:=8) (off:=0) (m:=8) (l:=vJ l i) (n:=(i:Int)) (vs:=aw (pK (gt l (i:Int)))) (x:=pK (gt l (i:Int))) (by omega) (by omega) (λ_=>rfl) (by decide) rfl rfl rfl
   rw[Int.toNat_natCast,hs]at this
   exact this
  generalize vJ l (i+1)=L2 at p hs
  generalize vJ l i=L at*
  have e1:(i:Int)<L.length:=by omega
  simp(disch:=omega) only[↓pq,↓pj,ps,pz,↓reduceIte,af,ah,ai,aj,ak,ap,aq,au,av,kG_,e1,g0,adU,p]
 ·intro q
  have hz:¬((l.length:Int)<(vJ l l.length).length):=by rw[PJ];omega
  simp(disch:=omega) only[↓pq,↓pj,ps,pz,↓reduceIte,af,ah,ai,aj,ak,ap,aq,au,av,kG_,hz]
  unfold vJ
  simp
def PkP(B:List Int)(o:Option (List T)):Prop:=
 ∃(p:bd) (i' h':Int),o=some [ii p.kind,ii p.fQ,ii p.to,ii p.ae,.l (p.heard.map aE),.l (p.list.map aw),.l (B.map gm),ii i',ii h']∧(p.heard.length<=10∧p.list.length<=200∧aQ p.list)∧0<=i'∧i'<=B.length
theorem PK{s:List ay}{n:Nat}(h:s.length<=n)(hn:aQ s)(a:Int):(scope s a).length<=n∧aQ (scope s a):=⟨Nat.le_trans (List.length_filter_le _ _) h,λr hr=>hn r (List.mem_filter.1 hr).1⟩
theorem PM{s:List ay}{n:Nat}(h:s.length<=n)(a:Int):((scope s a).map pK).length<=n∧aQ ((scope s a).map pK):=
 ⟨by rw[List.length_map];exact Nat.le_trans (List.length_filter_le _ _) h,λr hr=>by obtain⟨y,_,rfl⟩:=List.mem_map.1 hr;simp[pK]⟩
set_option maxHeartbeats 1000000 in
theorem adV{B:List Int}(hB:∀x∈B,rO x)(hl:B.length<=1048576){i:Int}(h:Int)(hi:0<=i)(aU:i<=B.length):PkP B (L4 [.l (B.map gm),ii i,ii h]):=by
 rw[apW]
 obtain⟨k,i,h,e1,hk,hi,aU⟩:=my hB hl h hi aU 3 (by omega) (by omega)
 obtain⟨f,i,h,e2,hf,hi,aU⟩:=my hB hl h hi aU 4 (by omega) (by omega)
 obtain⟨a,i,h,e3,ha,hi,aU⟩:=my hB hl h hi aU 3 (by omega) (by omega)
 have az8:(1+f).tmod 5+1<=10∧0<=(1+f).tmod 5:=by
  have h1:=Int.tmod_lt_of_pos (1+f) (show(0:Int)<5 by decide)
  have h2:=Int.tmod_nonneg 5 (show 0<=1+f by omega)
  omega
 by_cases c1:1+k=1
 ·simp(disch:=omega) only[↓pq,↓pj,ps,pz,↓reduceIte,af,ah,ai,aj,ak,ap,aq,au,av,Nk,ju_,e1,e2,e3,c1]
  refine xZ (PkP B) (λm st=>∃(v:Nat) (i h:Int) (l:List Int),st=[ii ((v:Int)+1),.l (B.map gm),ii i,ii h,.l (l.map aE)]∧v<=5∧(0<=i∧i<=B.length)∧l.length<=v∧m=5-v) ?_ 5 [ii 1,.l (B.map gm),ii i,ii h,.l []] rounds ⟨0,i,h,[],rfl,by omega,⟨hi,aU⟩,by simp,rfl⟩ (by unfold rounds;omega)
  rintro m st q ⟨v,i,h,l,rfl,hv,⟨hi,aU⟩,D6,rfl⟩ hq
  by_cases c2:(v:Int)+1<=5
  ·obtain⟨b,i,h,e5,hi,aU⟩:=zR hB hl h hi aU 2 (by omega) (by omega)
   cases b with
   |false=>
    simp(disch:=omega) only[↓pq,↓pj,ps,pz,↓reduceIte,af,ah,ai,aj,ak,ap,aq,au,av,Nk,c2,e5,cE]
    exact hq (5-(v+1)) _ (by omega) ⟨v+1,i,h,l,by rw[rG],by omega,⟨hi,aU⟩,by omega,rfl⟩
   |true=>
    simp(disch:=omega) only[↓pq,↓pj,ps,pz,↓reduceIte,af,ah,ai,aj,ak,ap,aq,au,av,Nk,c2,e5]
    exact hq (5-(v+1)) _ (by omega) ⟨v+1,i,h,l++[(v:Int)+1],by rw[rG],by omega,⟨hi,aU⟩,by simp;omega,rfl⟩
  ·simp(disch:=omega) only[↓pq,↓pj,ps,pz,↓reduceIte,af,ah,ai,aj,ak,ap,aq,au,av,Nk,c2]
   exact⟨⟨1,1+f,(1+f).tmod 5+1,a,l,[]⟩,i,h,rfl,⟨by show l.length<=10;omega,by simp,by intro r hr;cases hr⟩,hi,aU⟩
 ·obtain⟨s,i,h,e4,hs,hi,aU⟩:=PH hB hl h hi aU
  have oX:=hs.2.1
  have sX:=w6 hs.1
  have eS:=zo s a (by omega) sX
  have eH:=H9 s a (by omega) sX
  by_cases c2:1+k=2
  ·simp(disch:=omega) only[↓pq,↓pj,ps,pz,↓reduceIte,af,ah,ai,aj,ak,ap,aq,au,av,Nk,ju_,e1,e2,e3,c2,e4,eS,eH]
   exact⟨⟨2,1+f,(1+f).tmod 5+1,a,[],(scope s a).map pK⟩,i,h,rfl,⟨by simp,(PM (n:=200) (by omega) a).1,(PM (n:=200) (by omega) a).2⟩,hi,aU⟩
  ·simp(disch:=omega) only[↓pq,↓pj,ps,pz,↓reduceIte,af,ah,ai,aj,ak,ap,aq,au,av,Nk,ju_,e1,e2,e3,c1,c2,e4,eS]
   exact⟨⟨1+k,1+f,(1+f).tmod 5+1,a,[],scope s a⟩,i,h,rfl,⟨by simp,(PK (n:=200) (by omega) sX a).1,(PK (n:=200) (by omega) sX a).2⟩,hi,aU⟩
theorem adW(p:bd)(h1:p.heard.length<=1048576)(h2:p.list.length<=1048576)(h3:aQ p.list):
  L5 [ii p.kind,ii p.fQ,ii p.to,ii p.ae,.l (p.heard.map aE),.l (p.list.map aw)]=some [ii p.kind,ii p.fQ,ii p.to,ii p.ae,.l (p.heard.map aE),.l (p.list.map aw)]:=by
 rw[apY];simp(disch:=omega) only[↓pq,↓pj,ps,pz,↓reduceIte,af,ah,ai,aj,ak,ap,aq,au,av,Nl,Ek _ h2 h3]
set_option maxHeartbeats 1000000 in
theorem adX{B:List Int}(hB:∀x∈B,rO x)(hl:B.length<=1048576){i:Int}(h:Int)(hi:0<=i)(aU:i<=B.length):
  ∃(p:bd) (i' h':Int),Cu [.l (B.map gm),ii i,ii h]=some [ii p.kind,ii p.fQ,ii p.to,ii p.ae,.l (p.heard.map aE),.l (p.list.map aw),.l (B.map gm),ii i',ii h']∧(p.heard.length<=11∧p.list.length<=201∧aQ p.list)∧0<=i'∧i'<=B.length:=by
 rw[ap2]
 obtain⟨p,i,h,e1,⟨h1,h2,h3⟩,hi,aU⟩:=adV hB hl h hi aU
 have e2:=adW p (by omega) (by omega) h3
 obtain⟨k,i,h,e3,hk,hi,aU⟩:=my hB hl h hi aU 24 (by omega) (by omega)
 have same:p.heard.length<=11∧p.list.length<=201∧aQ p.list:=⟨by omega,by omega,h3⟩
 by_cases c0:k=0
 ·obtain⟨c,i,h,e4,_,hi,aU⟩:=zS hB hl h hi aU [0,1,2,3,4] (by simp) (by simp)
  simp(disch:=omega) only[↓pq,↓pj,ps,pz,↓reduceIte,af,ah,ai,aj,ak,ap,aq,au,av,I4,e1,e2,e3,c0,PD,e4]
  exact⟨{p with kind:=c},i,h,rfl,same,hi,aU⟩
 by_cases c1:k=1
 ·obtain⟨c,i,h,e4,_,hi,aU⟩:=zS hB hl h hi aU [0,6,7,p.to] (by simp) (by simp)
  simp(disch:=omega) only[↓pq,↓pj,ps,pz,↓reduceIte,af,ah,ai,aj,ak,ap,aq,au,av,I4,e1,e2,e3,c1,vG,e4]
  exact⟨{p with fQ:=c},i,h,rfl,same,hi,aU⟩
 by_cases c2:k=2
 ·obtain⟨c,i,h,e4,_,hi,aU⟩:=zS hB hl h hi aU [-1,0,2,3] (by simp) (by simp)
  simp(disch:=omega) only[↓pq,↓pj,ps,pz,↓reduceIte,af,ah,ai,aj,ak,ap,aq,au,av,I4,e1,e2,e3,c2,vG,e4]
  exact⟨{p with ae:=c},i,h,rfl,same,hi,aU⟩
 by_cases c3:k=3
 ·obtain⟨c,i,h,e4,_,hi,aU⟩:=my hB hl h hi aU 8 (by omega) (by omega)
  simp(disch:=omega) only[↓pq,↓pj,ps,pz,↓reduceIte,af,ah,ai,aj,ak,ap,aq,au,av,I4,e1,e2,e3,c3,e4]
  exact⟨{p with heard:=p.heard++[c]},i,h,rfl,⟨by show(p.heard++[c]).length<=11;simp;omega,same.2⟩,hi,aU⟩
 by_cases c4:k=4
 ·obtain⟨r,i,h,e4,hr,hi,aU⟩:=avz hB hl h hi aU
  have nE:=Vl r.ae r.kind r.owner r.key r.seq r.aX r.cost r.e_
  simp(disch:=omega) only[↓pq,↓pj,ps,pz,↓reduceIte,af,ah,ai,aj,ak,ap,aq,au,av,I4,e1,e2,e3,c4,e4,nE]
  refine⟨{p with list:=p.list++[r]},i,h,rfl,⟨same.1,by show(p.list++[r]).length<=201;simp;omega,λy hy=>?_⟩,hi,aU⟩
  rcases List.mem_append.1 hy with hy|hy
  ·exact h3 y hy
  ·rw[List.mem_singleton]at hy
   rw[hy];omega
 ·simp(disch:=omega) only[↓pq,↓pj,ps,pz,↓reduceIte,af,ah,ai,aj,ak,ap,aq,au,av,I4,e1,e2,e3,c0,c1,c2,c3,c4]
  exact⟨p,i,h,rfl,same,hi,aU⟩
theorem avC(r:ay):dS (gu r) r=true:=by
 unfold gu
 split<;>(rw[sameKey_iff];exact⟨rfl,rfl,rfl,rfl⟩)
theorem DG(x:Self)(r:ay):dS (wY x r) r=true:=avC r
theorem kX_(x:Self)(r:ay):dS (wX x r) r=true:=by rw[sameKey_iff];exact⟨rfl,rfl,rfl,rfl⟩
theorem adZ{a b:ay}(h:¬dS a b=true):dS a b=false:=by
 cases hc:dS a b with
 |false=>rfl
 |true=>exact absurd hc h
theorem H_{s:List ay}(h:ig s){f:ay->ay}(hf:∀r,dS (f r) r=true):s.Pairwise λa b=>dS (f a) (f b)=false:=by
 refine List.Pairwise.imp (λ{a b} lu=>adZ λhc=>?_) h
 have h1:=qK_ lu
 rw[tM (Dx (hf a)) (tM hc (hf b))]at h1
 cases h1
theorem Ia{f:ay->ay}:∀{l s:List ay},ig s->ig (eQ f s l)
 | [],_,h=>h
 |a::l,s,h=>Ia (l:=l) (Jc h (f a))
theorem DH{f:ay->ay}{p:ay->Bool}:∀(l c:List ay),l.foldl (λc r=>if p r=true then cM c (f r)else c) c=eQ f c (l.filter p)
 | [],c=>rfl
 |a::l,c=>by
  rw[List.foldl_cons,DH l,List.filter_cons]
  cases h:p a<;>rfl
theorem PN{x:Self}{W:List ay}(hW:ig W)(hs:ig x.store){r:ay}:r∈qB x W↔(∃w∈W,qz x.store w=true∧r=wX x w)∨∃o∈x.store,sZ x W o=true∧r=wY x o:=by
 have e1:W.foldl (qA x) []=eQ (wX x) [] (W.filter (qz x.store)):=DH (f:=wX x) (p:=qz x.store) W []
 have e2:qB x W=eQ (wY x) (W.foldl (qA x) []) (x.store.filter (sZ x W)):=DH (f:=wY x) (p:=sZ x W) x.store _
 rw[e2,Jn ((H_ hs (DG x)).filter _),e1,Jn ((H_ hW (kX_ x)).filter _)]
 constructor
 ·rintro(⟨o,ho,e⟩|⟨⟨w,hw,e⟩|⟨h,_⟩,_⟩)
  ·obtain⟨h1,h2⟩:=List.mem_filter.1 ho
   exact .inr ⟨o,h1,h2,e⟩
  ·obtain⟨h1,h2⟩:=List.mem_filter.1 hw
   exact .inl ⟨w,h1,h2,e⟩
  ·cases h
 ·rintro(⟨w,hw,h,e⟩|⟨o,ho,h,e⟩)
  ·refine .inr ⟨.inl ⟨w,List.mem_filter.2 ⟨hw,h⟩,e⟩,λo ho=>adZ λhc=>?_⟩
   obtain⟨_,h2⟩:=List.mem_filter.1 ho
   unfold sZ at h2
   simp only[bL,decide_eq_true_eq]at h2
   have h3:=avf h2.2.1 w hw
   rw[tM (Dx (kX_ x w)) (tM (e▸hc) (DG x o))]at h3
   cases h3
  ·exact .inl ⟨o,List.mem_filter.2 ⟨ho,h⟩,e⟩
theorem Q2(x:Self)(W:List ay):ig (qB x W):=by
 have e1:W.foldl (qA x) []=eQ (wX x) [] (W.filter (qz x.store)):=DH (f:=wX x) (p:=qz x.store) W []
 have e2:qB x W=eQ (wY x) (W.foldl (qA x) []) (x.store.filter (sZ x W)):=DH (f:=wY x) (p:=sZ x W) x.store _
 rw[e2,e1]
 exact Ia (Ia .nil)
theorem uS{s N:List ay}(hN:ig N){r:ay}:r∈eQ same s N↔r∈N∨(r∈s∧∀o∈N,dS r o=false):=by
 rw[Jn (f:=same) (H_ hN λr=>Et r)]
 constructor
 ·rintro(⟨o,ho,e⟩|h)
  ·exact .inl (e▸ho)
  ·exact .inr h
 ·rintro(h|h)
  ·exact .inl ⟨r,h,rfl⟩
  ·exact .inr h
theorem zZ{f:ay->ay}{x:ay}:∀{l s:List ay},x∈eQ f s l->x∈s∨∃y∈l,x=f y
 | [],s,h=>.inl h
 |a::l,s,h=>by
  rcases zZ (l:=l) h with h|⟨y,hy,e⟩
  ·rcases wN h with h|h
   ·exact .inr ⟨a,.head _,h⟩
   ·exact .inl h
  ·exact .inr ⟨y,.tail _ hy,e⟩
theorem avD{x:Self}{S:List ay}{w:ay}(h:w∈ng x S):w∈fO x∨w∈oM x S∨w∈HT x:=by
 rcases zZ h with h|⟨y,hy,e⟩
 ·cases h
 ·rw[e]
  rcases List.mem_append.1 hy with hy|hy
  ·rcases List.mem_append.1 hy with hy|hy
   ·exact .inl hy
   ·exact .inr (.inl hy)
  ·exact .inr (.inr hy)
theorem PO(x:Self)(S:List ay):ig (ng x S):=Ia .nil
theorem avE{x:Self}{S:List ay}{w:ay}(h:w∈ng x S):w.owner=x.id∧(w.kind=3->w∈HT x):=by
 rcases avD h with h|h|h
 ·have:=zP h
  exact⟨this.2.2.1,λhk=>by omega⟩
 ·unfold oM at h
  split at h
  ·obtain⟨a,_,h⟩:=List.mem_flatMap.1 h
   have:=QY h
   exact⟨this.2.2.1,λhk=>by omega⟩
  ·cases h
 ·refine⟨?_,λ_=>h⟩
  obtain⟨t,_,rfl⟩:=List.mem_map.1 h
  rfl
section
variable {x:Self} {Q:Int} {k:Nat} (h:jf x=true) (hb:x.aV<=1) (hq:(∀r∈x.store,r.seq<=Q)∧0<=Q∧Q<=90000) (h3:(x.store.filter qw).length<=k∧k<=22) (ht:x.net.aG.length<=2)
def Ib(x:Self):List ay:=qB x (ng x (qS x.store x.id (fO x)))
def uT(x:Self):List ay:=eQ same x.store (Ib x)
include h hb hq in
theorem PP{r:ay}(hr:r∈Ib x):r.seq<=Q+1001∧1000*x.aV<r.seq∧nQ x.store r<r.seq:=by
 obtain⟨hN,hid,iS,jJ,uo,cn⟩:=mJ h
 have rN:=qR cn
 have ho:∀q:ay,0<=nQ x.store q∧nQ x.store q<=Q:=by
  intro q
  refine⟨(HY cn q).1,?_⟩
  unfold nQ
  split
  ·omega
  ·exact hq.1 _ (H5 (s:=x.store) (r:=q) (by omega)).1
 have hs:∀q:ay,sY x q<=Q+1001∧1000*x.aV<sY x q∧nQ x.store q<sY x q:=by
  intro q
  have:=ho q
  unfold sY
  split<;>omega
 have hk:∀{a b:ay},dS a b=true->nQ x.store a=nQ x.store b:=by
  intro a b lu
  have e:bA x.store a=bA x.store b:=by
   unfold bA
   congr 1
   funext y
   rw[Bool.eq_iff_iff]
   exact⟨λhh=>tM hh lu,λhh=>tM hh (Dx lu)⟩
  unfold nQ
  rw[e]
 rcases(PN (PO _ _) rN).1 hr with⟨w,hw,_,e⟩|⟨o,_,hg,e⟩
 ·rw[hk (e▸kX_ x w:dS r w=true),e]
  exact hs w
 ·rw[hk (e▸DG x o:dS r o=true),e]
  exact hs o
include h hb hq in
theorem ad0:((Ib x).all λr=>decide (r.seq<=100000))=true:=by
 rw[List.all_eq_true]
 intro r hr
 have:=PP h hb hq hr
 rw[decide_eq_true_eq];omega
include h hb hq in
theorem avF{r:ay}(hr:r∈uT x):eP r=true:=by
 have cn:=(mJ h).2.2.2.2.2
 rcases(uS (Q2 _ _)).1 hr with hr|⟨hr,_⟩
 ·exact adu h _ (ad0 h hb hq) r hr
 ·exact Dd cn hr
include h h3 ht in
theorem avG:((uT x).filter qw).length<=k+2:=by
 have cn:=(mJ h).2.2.2.2.2
 have rN:=qR cn
 have f1:Fit k (x.store.filter qw):=⟨rN.filter _,λr hr=>w6 cn r (List.mem_filter.1 hr).1,h3.1⟩
 have hl:=adh x
 have f2:=Fit.lE (f:=same) (l:=HT x) (λr hr=>by obtain⟨t,_,rfl⟩:=List.mem_map.1 hr;simp[same,qy]) f1
 refine Nat.le_trans (qh_ ((Ia rN).filter qw) f2.so λr hr=>?_) (Nat.le_trans f2.len (by omega))
 obtain⟨hr,hk⟩:=List.mem_filter.1 hr
 have mf:r.kind=3:=by simpa[qw]using hk
 rcases(uS (Q2 _ _)).1 hr with hr|⟨hr,_⟩
 ·rcases(PN (PO _ _) rN).1 hr with⟨w,hw,_,e⟩|⟨o,ho,_,e⟩
  ·exact cD.nP (z:=w) (e▸kX_ x w) ((avE hw).2 (by rw[e]at mf;exact mf))
  ·have II:=DG x o
   refine cD.lE ⟨o,List.mem_filter.2 ⟨ho,?_⟩,e▸II⟩
   have:=(sameKey_iff.1 II).2.1
   rw[e]at mf
   simp[qw,<-this,mf]
 ·exact cD.lE ⟨r,List.mem_filter.2 ⟨hr,hk⟩,Et r⟩
include h hb hq h3 ht in
theorem PQ:iY (k+2) (uT x):=⟨Ia (qR (mJ h).2.2.2.2.2),λr hr=>avF h hb hq hr,avG h h3 ht⟩
include h hb hq h3 ht in
theorem ad1:jg x=({x with store:=uT x},Ib x):=by
 unfold jg
 rw[if_pos h]
 unfold vD
 have:=(PQ h hb hq h3 ht).len
 exact if_pos ⟨ad0 h hb hq,by show(uT x).length<=150;omega⟩
end
def rl(e:cO):Int×Int:=(e.node,e.ae)
def nR(ls:List bH)(id m a:Int)(c:List cO):Prop:=(c.Pairwise λx y=>zW (rl x) (rl y))∧∀e∈c,0<=dJ (eE id e.node e.ae) ls∧(e.node<m∨e.node=m∧e.ae<a)
theorem nR.step{ls:List bH}{id:Int}{v a:Nat}{c:List cO}(h:nR ls id ((v:Int)+1) a c):nR ls id ((v:Int)+1) ((a:Int)+1) (mI ls id v c a):=by
 unfold mI
 split
 ·rename_i hf
  refine⟨List.pairwise_append.2 ⟨h.1,List.pairwise_singleton _ _,λx hx y hy=>?_⟩,λe he=>?_⟩
  ·rw[List.mem_singleton]at hy
   rw[hy]
   exact(h.2 x hx).2
  ·rcases List.mem_append.1 he with he|he
   ·have:=h.2 e he
    exact⟨this.1,by omega⟩
   ·rw[List.mem_singleton]at he
    rw[he]
    exact⟨hf,.inr ⟨rfl,by show(a:Int)<(a:Int)+1;omega⟩⟩
 ·refine⟨h.1,λe he=>?_⟩
  have:=h.2 e he
  exact⟨this.1,by omega⟩
theorem nR.row{ls:List bH}{id:Int}{v:Nat}{c:List cO}(h:nR ls id ((v:Int)+1) 0 c):nR ls id ((v:Int)+1+1) 0 (vz ls id c v):=by
 have h0:nR ls id ((v:Int)+1) ((0:Nat):Int) c:=h
 have h1:=h0.step
 have h1:nR ls id ((v:Int)+1) ((1:Nat):Int) (mI ls id v c 0):=h1
 have h2:=h1.step
 have h2:nR ls id ((v:Int)+1) ((2:Nat):Int) (mI ls id v (mI ls id v c 0) 1):=h2
 have h3:=h2.step
 show nR ls id ((v:Int)+1+1) 0 (mI ls id v (mI ls id v (mI ls id v c 0) 1) 2)
 refine⟨h3.1,λe he=>?_⟩
 have:=h3.2 e he
 exact⟨this.1,by omega⟩
theorem PR(ls:List bH)(id:Int):∀k:Nat,nR ls id ((k:Int)+1) 0 ((List.range k).foldl (vz ls id) [])
 |0=>⟨.nil,by simp⟩
 |k+1=>by
  rw[List.range_succ,List.foldl_append]
  have:=(PR ls id k).row
  show nR ls id (((k+1:Nat):Int)+1) 0 (vz ls id _ k)
  rw[show(((k+1:Nat):Int)+1)=(k:Int)+1+1 by omega]
  exact this
theorem avH(es:List cO):iK es=pJ ((es.filter λe=>e.both).map rl):=by
 have:∀(l:List cO) (c:List Int),l.foldl G_ c=c++pJ ((l.filter λe=>e.both).map rl):=by
  intro l
  induction l with
  |nil=>intro c;simp[pJ]
  |cons e l ih=>
   intro c
   rw[List.foldl_cons,ih,List.filter_cons]
   unfold G_
   cases hb:e.both with
   |true=>simp[pJ,rl]
   |false=>simp
 exact this es []
def dT(x:Self)(es:List cO):Prop:=es.map rl=(nM x.net.aB x.id x.net.n).map rl
theorem z7{n:Node}(h:j5 n=true):dT n.self n.cq:=by
 obtain⟨_,hl,_⟩:=vE h
 unfold j5 AB at h
 simp only[bL,decide_eq_true_eq]at h
 have ha:=bW.1 h.2.1.2
 refine List.ext_getElem (by simp[hl]) λi h1 h2=>?_
 rw[List.length_map]at h1 h2
 have:=ha i h1
 unfold zn at this
 simp only[bL,decide_eq_true_eq]at this
 rw[List.getElem_map,List.getElem_map,<-eh h1,<-eh h2]
 exact Prod.ext this.1 this.2.1
theorem dT.heard{x:Self}{es:List cO}(h:dT x es)(hn:0<=x.net.n):(iK es).length%2=0∧xQ (λv a=>decide (0<=dJ (eE x.id v a) x.net.aB)) (iK es)=true:=by
 have hA:=PR x.net.aB x.id x.net.n.toNat
 have hA:nR x.net.aB x.id ((x.net.n.toNat:Int)+1) 0 (nM x.net.aB x.id x.net.n):=hA
 have hp:(es.map rl).Pairwise zW:=by
  rw[h]
  exact List.pairwise_map.2 hA.1
 rw[avH]
 refine⟨by rw[H8];omega,adR (List.pairwise_map.2 ((List.pairwise_map.1 hp).filter _)) λp qL=>?_⟩
 obtain⟨e,he,rfl⟩:=List.mem_map.1 qL
 have:rl e∈(nM x.net.aB x.id x.net.n).map rl:=by rw[<-h];exact List.mem_map_of_mem (List.mem_filter.1 he).1
 obtain⟨e',he',e1⟩:=List.mem_map.1 this
 rw[decide_eq_true_eq,<-e1]
 exact(hA.2 e' he').1
theorem Ic{x:Self}(h:jf x=true){es:List cO}(he:dT x es):jf {x with heard:=iK es}=true:=by
 have hn:=(rM (mJ h).1).1
 obtain⟨h1,h2⟩:=he.heard (by omega)
 unfold jf at h⊢
 simp only[bL,decide_eq_true_eq,be]at h⊢
 exact⟨h.1,h.2.1,h.2.2.1,⟨h1,h2⟩,h.2.2.2.2⟩
theorem ad2{x:Self}{es:List cO}(h:dT x es):dT x (es.map l9):=by
 unfold dT at h⊢
 rw[List.map_map]
 exact h
structure uU (Q:Int) (k:Nat) (n:Node):Prop where
 ok:j5 n=true
 aV:n.self.aV<=1
 seq:∀r∈n.self.store,r.seq<=Q
 three:(n.self.store.filter qw).length<=k
 aG:n.self.net.aG.length<=2
theorem avI{w e:cO}(h:zn w e=true):zn w (l9 e)=true:=by
 unfold zn at h⊢
 simp only[bL,be,decide_eq_true_eq,Bool.not_eq_true']at h⊢
 refine⟨h.1,h.2.1,?_,?_⟩
 ·show 0<=(if 0>e.left-1 then 0 else e.left-1)∧(if 0>e.left-1 then 0 else e.left-1)<=3
  split<;>omega
 ·show(e.both&&decide ((if 0>e.left-1 then 0 else e.left-1)>0)&&decide ((if 0>e.left-1 then 0 else e.left-1)=0))=false
  by_cases h0:(if 0>e.left-1 then 0 else e.left-1)=0
  ·rw[h0];simp
  ·simp[h0]
theorem uU.tick{Q:Int}{k:Nat}{n:Node}(h:uU Q k n)(hQ:0<=Q∧Q<=90000)(hk:k<=22):uU (Q+1001) (k+2) (qT n)∧(qT n).self={n.self with heard:=iK (n.cq.map l9),store:=uT {n.self with heard:=iK (n.cq.map l9)}}:=by
 obtain⟨x,es⟩:=n
 obtain⟨cV,hb,hq,h3,ht⟩:=h
 simp only at hb hq h3 ht
 have hA:=ad2 (z7 cV)
 obtain⟨hs,vk,_⟩:=vE cV
 simp only at hs vk
 have hx:=Ic hs hA
 have j6:(∀r∈({x with heard:=iK (es.map l9)}:Self).store,r.seq<=Q)∧0<=Q∧Q<=90000:=⟨hq,hQ⟩
 have FB:(({x with heard:=iK (es.map l9)}:Self).store.filter qw).length<=k∧k<=22:=⟨h3,hk⟩
 have r1:=ad1 hx hb j6 FB ht
 have r2:=PQ hx hb j6 FB ht
 have e:qT ⟨x,es⟩=⟨{x with heard:=iK (es.map l9),store:=uT {x with heard:=iK (es.map l9)}},es.map l9⟩:=by
  unfold qT
  simp only
  rw[r1]
 rw[e]
 refine⟨⟨?_,hb,λr hr=>?_,r2.2.2,ht⟩,rfl⟩
 ·unfold j5 AB
  simp only[bL,decide_eq_true_eq]
  refine⟨k3_ hx (r2.ok (by omega)),⟨by rw[List.length_map,vk],bW.2 λi hi=>?_⟩,?_⟩
  ·rw[List.length_map]at hi
   have h1:j5 ⟨x,es⟩=true:=cV
   unfold j5 AB at h1
   simp only[bL,decide_eq_true_eq]at h1
   have:=avI (bW.1 h1.2.1.2 i hi)
   rw[eh (l:=es.map l9) (by simpa using hi),List.getElem_map,<-eh hi]
   exact this
  ·rw[jC]
 ·rcases(uS (Q2 _ _)).1 hr with hr|⟨hr,_⟩
  ·exact(PP hx hb j6 hr).1
  ·have:=hq r hr
   omega
end Go.Proofs.YtjimmglpkndemaaGreatC
