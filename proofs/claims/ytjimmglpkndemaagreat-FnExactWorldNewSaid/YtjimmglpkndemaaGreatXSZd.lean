/- What a node renews, by the other program; new nodes. Conditions: none. -/
import Derived.Test.YtjimmglpkndemaaGreatXMV
import Derived.Test.YtjimmglpkndemaaGreatKe
import Derived.Test.YtjimmglpkndemaaGreatXSL
namespace Go.Proofs.YtjimmglpkndemaaGreatC
attribute [local irreducible] jp
open Int renaming reduceLE -> ak, reduceLT -> ap, reduceEq -> aq, reduceGT -> au, reduceGE -> av, reduceAdd -> aw, reduceSub -> ax, reduceMul -> ay, reduceNeg -> az
set_option linter.unusedVariables false
set_option linter.unusedSimpArgs false
def tJ(k:Nat)(c:List ah):Prop:=Fit k c∧∀y∈c,1<=y.seq
theorem tJ.put{k:Nat}{c:List ah}(h:tJ k c){r:ah}(hr:r.bd.length<=1048576)(hq:1<=r.seq):tJ (k+1) (dg c r):=
 ⟨h.1.put hr,λy hy=>by
  rcases xJ hy with rfl|hy
  ·exact hq
  ·exact h.2 y hy⟩
theorem tJ.mono{k k':Nat}{c:List ah}(h:tJ k c)(hk:k<=k'):tJ k' c:=⟨h.1.mono hk,h.2⟩
def Bm(x:Self)(l:List ah):List T:=
 if l.all (λr=>decide (r.seq<=100000))=true∧(eU same x.store l).length<=150 then h_ {x with store:=eU same x.store l}++[.l (l.map aC)]else h_ x++[.l []]
theorem arv(x:Self)(h1:x.net.ai.length<=1048576)(h2:x.net.aB.length<=1048576)(h3:x.heard.length<=1048576)(h4:x.store.length<=1048576)(h5:bI x.store):
  AB [ii x.id,ii x.aQ,ii x.net.n,.l (x.net.ai.map df),.l (x.net.aB.map dH),.l (x.heard.map aG),.l (x.store.map aC)]=some (h_ (jG x).1++[.l ((jG x).2.map aC)]):=by
 have hS:=Md x.id x.aQ x.net.n x.net.ai x.net.aB x.heard x.store h1 h2 h3 h4 h5
 rw[show(⟨x.id,x.aQ,⟨x.net.n,x.net.ai,x.net.aB⟩,x.heard,x.store⟩:Self)=x from rfl]at hS
 have hC:=arp x h1 h2 h3 h4 h5
 simp only[h_]at hC
 cases hk:l8 x with
 |false=>
  rw[hk]at hS
  rw[show jG x=(x,[]) from by unfold jG;rw[if_neg (by rw[hk];decide)]]
  rw[Yd];simp(disch:=omega) only[↓pQ,pS,↓reduceIte,ak,ap,aq,au,av,aw,ax,ay,az,ub,uc,ud,E6,hS,hC,dI]
  rfl
 |true=>
  rw[hk]at hS
  rw[show jG x=vw x (lA x (pF x.store x.id (eV x))) from by unfold jG;rw[if_pos hk],<-arh hk]
  obtain⟨hN,ie,kH,jl,uS,cf⟩:=qg hk
  obtain⟨n1,hl,ht,hA,hT⟩:=ul hN
  have hW:=aq8 x.id x.aQ x.net.n x.net.ai x.net.aB x.heard x.store h1 h2 h3 h4 h5 hk
  rw[show(⟨x.id,x.aQ,⟨x.net.n,x.net.ai,x.net.aB⟩,x.heard,x.store⟩:Self)=x from rfl]at hW
  have Hc:=Na (x:=x) (wv x) ht h3
  generalize lA x (wv x)=W at hW Hc
  have hf:=ZQ cf h5
  have sK:=hf.len
  have Za:=Hc.len
  rw[show some (h_ (vw x W).1++[T.l ((vw x W).2.map aC)])=some (Bm x (x.store.foldl (rI x W) (W.foldl (pI x) []))) from by
   unfold vw Bm
   rw[show x.store.foldl (rI x W) (W.foldl (pI x) [])=om x W from rfl]
   split<;>rfl]
  rw[Yd];simp(disch:=omega) only[↓pQ,pS,↓reduceIte,ak,ap,aq,au,av,aw,ax,ay,az,ub,uc,ud,E6,hS,hW]
  refine kC W (λi c=>[.l (c.map aC),ii i]) (pI x) (λc=>some (Bm x (x.store.foldl (rI x W) c))) [] (λi c=>tJ i c) rfl (ek (by omega)) ⟨Fit.nil,by simp⟩ ?_ ?_
  ·intro i c hi hc
   have na:=Hc.bd.gt (n:=i) (by omega) hi
   generalize hw:gt W (i:Int)=w at na
   refine⟨?_,λq=>?_⟩
   ·unfold pI
    split
    ·exact hc.put na (FR cf kH w).1
    ·exact hc.mono (by omega)
   ·have mI:=hc.1.len
    have hF:=arq x.store w (ii w.seq) (.l (w.bd.map fk)) (ii w.cost) (bb w.fT) h4 h5
    have hq:=ZW (ii x.id) (ii x.net.n) (.l (x.net.ai.map df)) (.l (x.net.aB.map dH)) (.l (x.heard.map aG)) (.l (x.store.map aC)) x w cf kH
    have hp:=Fj c w.ae w.kind w.owner w.key (tI x w) w.bd w.cost w.fT (by omega) hc.1.bd na
    have a_:=xU x.store w
    unfold pI pH
    unfold qh at hq
    by_cases h0:bL x.store w<0
    ·rw[if_pos h0]at hF hq
     simp(disch:=omega) only[↓pQ,pS,↓reduceIte,ak,ap,aq,au,av,aw,ax,ay,az,ub,uc,ud,hi,hw,hF,h0,hq,hp,decide_true,Bool.true_or,dI]
     rfl
    ·have h1:0<=bL x.store w:=by omega
     rw[if_neg h0]at hF hq
     have oI:=YG (gt x.store (bL x.store w)).ae (gt x.store (bL x.store w)).kind (gt x.store (bL x.store w)).owner (gt x.store (bL x.store w)).key (gt x.store (bL x.store w)).seq (gt x.store (bL x.store w)).bd (gt x.store (bL x.store w)).cost (gt x.store (bL x.store w)).fT w.ae w.kind w.owner w.key w.seq w.bd w.cost w.fT (h5.gt h1 a_)
     rw[show(⟨(gt x.store (bL x.store w)).ae,(gt x.store (bL x.store w)).kind,(gt x.store (bL x.store w)).owner,(gt x.store (bL x.store w)).key,(gt x.store (bL x.store w)).seq,(gt x.store (bL x.store w)).bd,(gt x.store (bL x.store w)).cost,(gt x.store (bL x.store w)).fT⟩:ah)=gt x.store (bL x.store w) from rfl,show(⟨w.ae,w.kind,w.owner,w.key,w.seq,w.bd,w.cost,w.fT⟩:ah)=w from rfl]at oI
     simp only[aC,List.cons_append,List.nil_append]at hF
     cases jm:yE (gt x.store (bL x.store w)) w with
     |true=>
      rw[jm]at oI
      simp(disch:=omega) only[↓pQ,pS,↓reduceIte,ak,ap,aq,au,av,aw,ax,ay,az,ub,uc,ud,hi,hw,hF,h0,oI,decide_false,Bool.false_or,Bool.not_true,dI]
     |false=>
      rw[jm]at oI
      simp(disch:=omega) only[↓pQ,pS,↓reduceIte,ak,ap,aq,au,av,aw,ax,ay,az,ub,uc,ud,hi,hw,hF,h0,oI,hq,hp,decide_false,Bool.false_or,Bool.not_false,dI]
      rfl
  ·intro c q hc
   simp(disch:=omega) only[↓pQ,pS,↓reduceIte,ak,ap,aq,au,av,aw,ax,ay,az,ub,uc,ud,]
   refine kC x.store (λi c=>[.l (c.map aC),ii i]) (rI x W) (λl=>some (Bm x l)) c (λi c=>tJ (25+i) c) rfl (ek (by omega)) (hc.mono (by omega)) ?_ ?_
   ·intro i c hi hc
    have na:=h5.gt (n:=i) (by omega) hi
    have ra:=yH cf (j_ (l:=x.store) (n:=(i:Int)) (by omega) hi)
    generalize hr:gt x.store (i:Int)=r at na ra
    refine⟨?_,λq=>?_⟩
    ·unfold rI
     split
     ·exact hc.put (by show(fy r).bd.length<=_;rw[OI];simp) (FR cf kH r).1
     ·exact hc.mono (by omega)
    ·have mI:=hc.1.len
     have hk:=Mi W r.ae r.kind r.owner r.key (ii r.seq) (.l (r.bd.map fk)) (ii r.cost) (bb r.fT) (by omega)
     rw[A4]at hk
     have hold:qh x.store r=r.seq:=by
      obtain⟨j,hj,e⟩:∃j:Nat,j<x.store.length∧bL x.store r=j:=by
       have h0:0<=eF (λy=>dX y r) x.store:=M3 (hr▸j_ (l:=x.store) (n:=(i:Int)) (by omega) hi) (OG r)
       have:=xU x.store r
       exact⟨(bL x.store r).toNat,by unfold bL at *;omega,by unfold bL at *;omega⟩
      have n7:dX (gt x.store (bL x.store r)) r=true:=t_ (λy=>dX y r) x.store (by unfold bL at e;omega)
      have hm:=j_ (l:=x.store) (n:=bL x.store r) (by omega) (by omega)
      have hmr:r∈x.store:=hr▸j_ (l:=x.store) (n:=(i:Int)) (by omega) hi
      have heq:gt x.store (bL x.store r)=r:=by
       generalize gt x.store (bL x.store r)=z at n7 hm
       have vx:=Fg cf
       obtain⟨a,ha,rfl⟩:=List.mem_iff_getElem.1 hm
       obtain⟨b,hb,e2⟩:=List.mem_iff_getElem.1 hmr
       rcases Nat.lt_trichotomy a b with lT|lT|lT
       ·have:=List.pairwise_iff_getElem.1 vx a b ha hb lT
        rw[e2]at this
        rw[YN this]at n7;cases n7
       ·subst lT;exact e2
       ·have:=List.pairwise_iff_getElem.1 vx b a hb ha lT
        rw[e2]at this
        have h9:=Ha n7
        rw[YN this]at h9;cases h9
      unfold qh
      rw[if_neg (by omega),heq]
     have hq:=ZW (ii x.id) (ii x.net.n) (.l (x.net.ai.map df)) (.l (x.net.aB.map dH)) (.l (x.heard.map aG)) (.l (x.store.map aC)) x r cf kH
     rw[hold]at hq
     have lq:=Fc r.ae r.kind r.owner r.key r.seq r.bd r.cost r.fT na
     have hg:=ark r (arl ra)
     have oI:=YG (fy r).ae (fy r).kind (fy r).owner (fy r).key (fy r).seq (fy r).bd (fy r).cost (fy r).fT r.ae r.kind r.owner r.key r.seq r.bd r.cost r.fT (by rw[OI];simp)
     have hp:=Fj c (fy r).ae (fy r).kind (fy r).owner (fy r).key (tI x r) (fy r).bd (fy r).cost (fy r).fT (by omega) hc.1.bd (by rw[OI];simp)
     rw[show(⟨(fy r).ae,(fy r).kind,(fy r).owner,(fy r).key,(fy r).seq,(fy r).bd,(fy r).cost,(fy r).fT⟩:ah)=fy r from rfl,show(⟨r.ae,r.kind,r.owner,r.key,r.seq,r.bd,r.cost,r.fT⟩:ah)=r from rfl]at oI
     unfold rI qi
     simp only[aC]at hg
     by_cases h0:r.owner=x.id
     ·rw[h0]at hk hg oI lq
      by_cases h1:bL W r<0
      ·have h2:¬bL W r>=0:=by omega
       cases jm:yE (fy r) r with
       |true=>
        rw[jm]at oI
        simp(disch:=omega) only[↓pQ,pS,↓reduceIte,ak,ap,aq,au,av,aw,ax,ay,az,ub,uc,ud,hi,hr,h0,hk,h1,h2,lq,hg,oI,Bool.not_true,Bool.and_false,dI]
       |false=>
        rw[jm]at oI
        simp(disch:=omega) only[↓pQ,pS,↓reduceIte,ak,ap,aq,au,av,aw,ax,ay,az,ub,uc,ud,hi,hr,h0,hk,h1,h2,lq,hg,oI,hq,hp,Bool.not_false,Bool.and_true,beq_self_eq_true,decide_true,dI]
        rfl
      ·have h2:bL W r>=0:=by omega
       simp(disch:=omega) only[↓pQ,pS,↓reduceIte,ak,ap,aq,au,av,aw,ax,ay,az,ub,uc,ud,hi,hr,h0,hk,h1,h2,decide_false,Bool.false_and,Bool.and_false,dI]
     ·have e0:(r.owner==x.id)=false:=by simpa using h0
      simp(disch:=omega) only[↓pQ,pS,↓reduceIte,ak,ap,aq,au,av,aw,ax,ay,az,ub,uc,ud,hi,hr,h0,e0,Bool.false_and,dI]
   ·intro l q jU
    have hll:=jU.1.len
    simp(disch:=omega) only[↓pQ,pS,↓reduceIte,ak,ap,aq,au,av,aw,ax,ay,az,ub,uc,ud,]
    have hwz:eU gT x.store l=eU same x.store l:=aqJ (λr hr=>by unfold gT;rw[if_neg (by have:=jU.2 r hr;omega)];rfl) _
    have hwi:=ZJ x.store l (by omega) h5 jU.1.bd
    rw[hwz]at hwi
    have hpf:Fit 325 (eU same x.store l):=(Fit.mT (f:=same) (λr hr=>jU.1.bd r hr) hf).mono (by omega)
    unfold Bm
    generalize eU same x.store l=P at hwi hpf
    have hPl:=hpf.len
    refine(BX l.length (λi=>[.l [],ii i]) (λi=>decide ((gt l (i:Int)).seq<=100000)) (g_:=some (h_ x++[.l []])) (jy:=some (if P.length<=150 then h_ {x with store:=P}++[.l (l.map aC)]else h_ x++[.l []])) rfl (ek (by omega)) ?_ ?_).trans ?_
    ·intro i hi s
     by_cases hq:(gt l (i:Int)).seq<=100000
     ·have rJ:¬(gt l (i:Int)).seq>100000:=by omega
      simp(disch:=omega) only[↓pQ,pS,↓reduceIte,ak,ap,aq,au,av,aw,ax,ay,az,ub,uc,ud,hi,hq,rJ,decide_true]
     ·have rJ:(gt l (i:Int)).seq>100000:=by omega
      simp(disch:=omega) only[↓pQ,pS,↓reduceIte,ak,ap,aq,au,av,aw,ax,ay,az,ub,uc,ud,hi,hq,rJ,hC,decide_false,dI]
      rfl
    ·intro s
     by_cases hq:P.length<=150
     ·have rJ:¬(P.length:Int)>150:=by omega
      rw[if_pos hq]
      simp(disch:=omega) only[↓pQ,pS,↓reduceIte,ak,ap,aq,au,av,aw,ax,ay,az,ub,uc,ud,hC,hwi,On P (by omega) hpf.bd,rJ,On l (by omega) jU.1.bd]
      rfl
     ·have rJ:(P.length:Int)>150:=by omega
      rw[if_neg hq]
      simp(disch:=omega) only[↓pQ,pS,↓reduceIte,ak,ap,aq,au,av,aw,ax,ay,az,ub,uc,ud,hC,hwi,On P (by omega) hpf.bd,rJ]
      rfl
    ·have e:nA l.length (λi=>decide ((gt l (i:Int)).seq<=100000))=l.all λr=>decide (r.seq<=100000):=by
      rw[Bool.eq_iff_iff,cq,List.all_eq_true]
      constructor
      ·intro h r hr
       obtain⟨i,hi,rfl⟩:=List.mem_iff_getElem.1 hr
       have:=h i hi
       rwa[eS hi]at this
      ·intro h i hi
       rw[eS hi]
       exact h _ (List.getElem_mem hi)
     rw[e]
     cases l.all λr=>decide (r.seq<=100000)with
     |false=>rw[if_neg (by decide),if_neg (by rintro⟨h,_⟩;cases h)]
     |true=>
      rw[if_pos rfl]
      by_cases hq:P.length<=150
      ·rw[if_pos hq,if_pos ⟨rfl,hq⟩]
      ·rw[if_neg hq,if_neg λh=>hq h.2]
theorem Bn{r:ah}(h:fN r=true):rl r∧r.bd.length<=6:=by
 have h1:=FL h
 have h2:=ZV h
 have h6:=M4 h
 have hn:∀y∈r.bd,Jx y:=by
  intro y hy
  unfold fN at h
  simp only[bA]at h
  have h:=h.2
  split at h
  ·simp only[bA]at h
   have:=Ou h.1.1.2 hy
   exact⟨fE.mk (by omega) (by omega),fE.mk (by omega) (by omega)⟩
  ·have:r.bd.length=0:=by
    split at h
    ·simp only[bA,decide_eq_true_eq]at h;omega
    ·split at h
     ·simp only[bA,decide_eq_true_eq]at h;omega
     ·cases h
   rw[List.eq_nil_of_length_eq_zero this]at hy;cases hy
 have hb:(-10<=r.ae∧r.ae<=10)∧(-10<=r.key∧r.key<=10)∧(-10<=r.cost∧r.cost<=60000):=by
  unfold fN at h
  simp only[bA]at h
  have h:=h.2
  split at h
  ·simp only[bA,bC,decide_eq_true_eq]at h;omega
  ·split at h
   ·simp only[bA,bC,decide_eq_true_eq]at h;omega
   ·split at h
    ·simp only[bA,Bool.or_eq_true,bC,decide_eq_true_eq]at h;omega
    ·cases h
 exact⟨⟨fE.mk (by omega) (by omega),fE.mk (by omega) (by omega),fE.mk (by omega) (by omega),fE.mk (by omega) (by omega),fE.mk (by omega) (by omega),⟨by unfold maxLen;omega,hn⟩,fE.mk (by omega) (by omega)⟩,h6⟩
theorem Nb{l:List ah}(h:∀r∈l,r.bd.length<=6):bz nz l<=7*l.length:=by
 induction l with
 |nil=>simp[bz]
 |cons r l ih=>
  have h1:=h r (.head _)
  have h2:=ih λy hy=>h y (.tail _ hy)
  have h3:∀m:List cn,bz Jy m=m.length:=by
   intro m;induction m with
   |nil=>rfl
   |cons a m ih=>simp only[bz,ih,Jy,List.length_cons];omega
  simp only[bz,nz,h3,List.length_cons]
  omega
theorem arw{r:ah}(h:fN (gJ r)=true){q:Int}(hq:1<=q∧q<=100000):fN {r with seq:=q}=true:=by
 unfold fN at h⊢
 simp only[gJ,bA,bC]at h⊢
 exact⟨⟨h.1.1,hq⟩,h.2⟩
theorem arx{r:ah}(h:fN r=true):fN (gJ (fy r))=true:=by
 have hk:=FL h
 unfold fN at h⊢
 unfold fy
 simp only[bA,bC]at h
 by_cases h1:r.kind=1
 ·have h2:=h.2
  rw[if_pos h1]at h2
  simp only[bA,bC,decide_eq_true_eq,Bool.not_eq_true']at h2
  rw[if_pos h1]
  simp only[gJ,h1,if_true,bA,bC,decide_eq_true_eq,Bool.not_eq_true']
  exact⟨⟨h.1.1,by omega⟩,⟨⟨⟨h2.1.1.1.1,h2.1.1.1.2⟩,by simp[vm,nA]⟩,h2.1.2⟩,h2.2⟩
 ·have h2:=h.2
  rw[if_neg h1]at h2
  rw[if_neg h1]
  simp only[gJ,h1,if_false,bA,bC]
  refine⟨⟨h.1.1,by omega⟩,?_⟩
  by_cases h3:r.kind=2
  ·rw[if_pos h3]at h2⊢
   simp only[bA,bC,decide_eq_true_eq,Bool.not_eq_true']at h2⊢
   exact⟨⟨⟨⟨h2.1.1.1.1,h2.1.1.1.2⟩,rfl⟩,by omega⟩,h2.2⟩
  ·rw[if_neg h3]at h2⊢
   by_cases h4:r.kind=3
   ·rw[if_pos h4]at h2⊢
    simp only[bA,Bool.or_eq_true,bC,decide_eq_true_eq]at h2
    have q1:=h2.1.1.1
    have q2:=h2.1.1.2
    simp[q1,q2,bC]
   ·rw[if_neg h4]at h2;cases h2
theorem ary{x:Self}(h:l8 x=true)(S:List ah):∀w∈lA x S,fN (gJ w)=true:=by
 obtain⟨hN,ie,kH,jl,uS,cf⟩:=qg h
 obtain⟨n1,hl,ht,hA,hT⟩:=ul hN
 have ic:∀(l s:List ah),(∀r∈s,fN (gJ r)=true)->(∀r∈l,fN (gJ r)=true)->∀r∈eU same s l,fN (gJ r)=true:=by
  intro l
  induction l with
  |nil=>intro s h1 _;exact h1
  |cons a l ih=>
   intro s h1 h2
   refine ih (dg s (same a)) (λr hr=>?_) λr hr=>h2 r (.tail _ hr)
   rcases xJ hr with e|hr
   ·rw[e];exact h2 a (.head _)
   ·exact h1 r hr
 refine ic _ _ (by simp) λr hr=>?_
 rcases List.mem_append.1 hr with hr|hr
 ·rcases List.mem_append.1 hr with hr|hr
  ·rw[<-(xT hr).1];exact ZU h hr
  ·unfold nT at hr
   split at hr
   ·obtain⟨a,ha,hr⟩:=List.mem_flatMap.1 hr
    exact(aqH (by omega) (ZI ha) hr).1
   ·cases hr
 ·obtain⟨t,jj,rfl⟩:=List.mem_map.1 hr
  have h3:=aqM hT (List.mem_filter.1 jj).1
  unfold fN
  simp only[gJ,pG,bA,bC]
  refine⟨⟨by omega,by omega⟩,?_⟩
  simp[bC,h3]
theorem Nc{x:Self}(h:l8 x=true)(S:List ah)(hq:(om x (lA x S)).all (λr=>decide (r.seq<=100000))=true):∀r∈om x (lA x S),fN r=true:=by
 obtain⟨hN,ie,kH,jl,uS,cf⟩:=qg h
 have hw:=ary h S
 have key:∀r∈om x (lA x S),∃b q,fN (gJ b)=true∧r={b with seq:=q}:=by
  have h1:∀(l c:List ah),(∀w∈l,fN (gJ w)=true)->(∀y∈c,∃b q,fN (gJ b)=true∧y={b with seq:=q})->∀y∈l.foldl (pI x) c,∃b q,fN (gJ b)=true∧y={b with seq:=q}:=by
   intro l
   induction l with
   |nil=>intro c _ h;exact h
   |cons a l ih=>
    intro c hl hc
    rw[List.foldl_cons]
    refine ih _ (λw hw=>hl w (.tail _ hw)) λy hy=>?_
    unfold pI at hy
    split at hy
    ·rcases xJ hy with rfl|hy
     ·exact⟨a,_,hl a (.head _),rfl⟩
     ·exact hc y hy
    ·exact hc y hy
  have h2:∀(l c:List ah),(∀w∈l,fN w=true)->(∀y∈c,∃b q,fN (gJ b)=true∧y={b with seq:=q})->∀y∈l.foldl (rI x (lA x S)) c,∃b q,fN (gJ b)=true∧y={b with seq:=q}:=by
   intro l
   induction l with
   |nil=>intro c _ h;exact h
   |cons a l ih=>
    intro c hl hc
    rw[List.foldl_cons]
    refine ih _ (λw hw=>hl w (.tail _ hw)) λy hy=>?_
    unfold rI at hy
    split at hy
    ·rcases xJ hy with rfl|hy
     ·exact⟨fy a,_,arx (hl a (.head _)),rfl⟩
     ·exact hc y hy
    ·exact hc y hy
  exact h2 _ _ (λw hw=>yH cf hw) (h1 _ _ hw (by simp))
 intro r hr
 have hs:=ars cf kH (lA x S) r hr
 have my:=List.all_eq_true.1 hq r hr
 rw[decide_eq_true_eq]at my
 obtain⟨b,q,hb,rfl⟩:=key r hr
 exact arw hb ⟨hs,my⟩
structure Rok (x:Self):Prop where
 id:(jG x).1.id=x.id
 aQ:(jG x).1.aQ=x.aQ
 net:(jG x).1.net=x.net
 heard:(jG x).1.heard=x.heard
 ok:∀r∈(jG x).1.store,rl r
 len:(jG x).1.store.length<=1048576
 qL:xv (jG x).1<=1048576
 ok2:∀r∈(jG x).2,rl r
 aAd:(jG x).2.length<=175
 aAe:bz nz (jG x).2<=1225
theorem arz{x:Self}(hb:xv x<=1048576)(ho:∀r∈x.store,rl r):Rok x:=by
 have hl:x.store.length<=1048576:=by
  have h1:=D_ (f:=nz) x.store
  unfold xv at hb;omega
 have tK:jG x=(x,[])->Rok x:=λe=>by
  constructor
  all_goals rw[e]
  ·exact ho
  ·exact hl
  ·exact hb
  ·simp
  ·simp
  ·simp[bz]
 unfold jG at tK
 by_cases hk:l8 x=true
 ·rw[if_pos hk]at tK
  unfold vw at tK
  by_cases hc:(om x (lA x (pF x.store x.id (eV x)))).all (λr=>decide (r.seq<=100000))=true∧(eU same x.store (om x (lA x (pF x.store x.id (eV x))))).length<=150
  ·obtain⟨hN,ie,kH,jl,uS,cf⟩:=qg hk
   obtain⟨n1,m5,ht,hA,hT⟩:=ul hN
   have e:jG x=({x with store:=eU same x.store (om x (lA x (pF x.store x.id (eV x))))},om x (lA x (pF x.store x.id (eV x)))):=by
    unfold jG vw
    rw[if_pos hk,if_pos hc]
   have hf:=Nc hk _ hc.1
   have BD:=YJ hA uS
   have hh:x.heard.length<=1048576:=by omega
   have sK:=(ZZ (Na (x:=x) (pF x.store x.id (eV x)) ht hh) (by unfold eJ at cf;simp only[bA,decide_eq_true_eq]at cf;exact cf.1)).len
   generalize om x (lA x (pF x.store x.id (eV x)))=l at e hf sK hc
   have hP:∀r∈eU same x.store l,fN r=true:=by
    have:∀(l s:List ah),(∀r∈s,fN r=true)->(∀r∈l,fN r=true)->∀r∈eU same s l,fN r=true:=by
     intro l
     induction l with
     |nil=>intro s h1 _;exact h1
     |cons a l ih=>
      intro s h1 h2
      refine ih (dg s (same a)) (λr hr=>?_) λr hr=>h2 r (.tail _ hr)
      rcases xJ hr with e|hr
      ·rw[e];exact h2 a (.head _)
      ·exact h1 r hr
    exact this _ _ (λr hr=>yH cf hr) hf
   have lI:=Nb (l:=eU same x.store l) λr hr=>(Bn (hP r hr)).2
   have nh:=Nb (l:=l) λr hr=>(Bn (hf r hr)).2
   have s1:∀m:List br,bz tY m=m.length:=by
    intro m;induction m with
    |nil=>rfl
    |cons a m ih=>simp only[bz,ih,tY,List.length_cons];omega
   have s2:∀m:List bO,bz tZ m=m.length:=by
    intro m;induction m with
    |nil=>rfl
    |cons a m ih=>simp only[bz,ih,tZ,List.length_cons];omega
   have s3:∀m:List Int,bz vg m=m.length:=by
    intro m;induction m with
    |nil=>rfl
    |cons a m ih=>simp only[bz,ih,vg,List.length_cons];omega
   constructor
   all_goals rw[e]
   ·exactλr hr=>(Bn (hP r hr)).1
   ·show(eU same x.store l).length<=_;omega
   ·unfold xv
    show bz tY x.net.ai+bz tZ x.net.aB+bz vg x.heard+bz nz (eU same x.store l)<=_
    rw[s1,s2,s3];omega
   ·exactλr hr=>(Bn (hf r hr)).1
   ·exact sK
   ·show bz nz l<=_;omega
  ·exact tK (by rw[if_neg hc])
 ·exact tK (by rw[if_neg hk])
def lB(x:Net)(id aQ:Int):Self:=⟨id,aQ,x,[],[]⟩
def ww:Node:=⟨⟨0,0,⟨0,[],[]⟩,[],[]⟩,[]⟩
def rK(x:Net)(id aQ:Int):Node×Bool:=if l8 (lB x id aQ)=true then(⟨(jG (lB x id aQ)).1,ui x.ai id x.n⟩,true)else(ww,false)
theorem arA(x:Net)(id aQ:Int)(h1:x.ai.length<=1048576)(h2:x.aB.length<=1048576):
  Xq [ii x.n,.l (x.ai.map df),.l (x.aB.map dH),ii id,ii aQ]=some (gf (rK x id aQ).1++[bb (rK x id aQ).2]):=by
 have hN:AE [ii x.n,.l (x.ai.map df),.l (x.aB.map dH)]=some [ii x.n,.l (x.ai.map df),.l (x.aB.map dH)]:=by
  rw[Lu];simp(disch:=omega) only[↓pQ,pS,↓reduceIte,ak,ap,aq,au,av,aw,ax,ay,az,Yi]
 have hS:=Mc id aQ x.n x.ai x.aB [] [] h1 h2 (by simp) (by simp) (by intro r hr;cases hr)
 rw[show(⟨id,aQ,⟨x.n,x.ai,x.aB⟩,[],[]⟩:Self)=lB x id aQ from rfl]at hS
 have hR:=art (lB x id aQ) h1 h2 (by simp[lB]) (by simp[lB]) (by intro r hr;cases hr)
 simp only[lB,List.map_nil]at hS hR
 rw[show(⟨id,aQ,x,[],[]⟩:Self)=lB x id aQ from rfl]at hS hR
 cases hk:l8 (lB x id aQ)with
 |false=>
  rw[hk]at hS
  rw[show rK x id aQ=(ww,false) from by unfold rK;rw[if_neg (by rw[hk];decide)]]
  rw[YB];simp(disch:=omega) only[↓pQ,pS,↓reduceIte,ak,ap,aq,au,av,aw,ax,ay,az,E',hN,hS,dI]
  rfl
 |true=>
  rw[hk]at hS
  have hn:x.n<=6:=(ul (qg hk).1).1.2
  rw[show rK x id aQ=(⟨(jG (lB x id aQ)).1,ui x.ai id x.n⟩,true) from by unfold rK;rw[if_pos hk]]
  simp only[h_,List.cons_append,List.nil_append]at hR
  rw[YB];simp(disch:=omega) only[↓pQ,pS,↓reduceIte,ak,ap,aq,au,av,aw,ax,ay,az,E',hN,hS,hR,apl x.n x.ai _ id hn h1]
  rfl
theorem arB(x:Net)(id aQ:Int)(h1:x.ai.length<=1048576)(h2:x.aB.length<=1048576):
  Vw [ii x.n,.l (x.ai.map df),.l (x.aB.map dH),ii id,ii aQ]=some (gf (rK x id aQ).1++[bb (rK x id aQ).2]):=by
 have hS:=Md id aQ x.n x.ai x.aB [] [] h1 h2 (by simp) (by simp) (by intro r hr;cases hr)
 rw[show(⟨id,aQ,⟨x.n,x.ai,x.aB⟩,[],[]⟩:Self)=lB x id aQ from rfl]at hS
 have hR:=arv (lB x id aQ) h1 h2 (by simp[lB]) (by simp[lB]) (by intro r hr;cases hr)
 simp only[lB,List.map_nil]at hS hR
 rw[show(⟨id,aQ,x,[],[]⟩:Self)=lB x id aQ from rfl]at hS hR
 cases hk:l8 (lB x id aQ)with
 |false=>
  rw[hk]at hS
  rw[show rK x id aQ=(ww,false) from by unfold rK;rw[if_neg (by rw[hk];decide)]]
  rw[Yf];simp(disch:=omega) only[↓pQ,pS,↓reduceIte,ak,ap,aq,au,av,aw,ax,ay,az,GU,GV,E7,hS,dI]
  rfl
 |true=>
  rw[hk]at hS
  obtain⟨hn,hl,ht,hA,hT⟩:=ul (show rC x=true from(qg hk).1)
  rw[show rK x id aQ=(⟨(jG (lB x id aQ)).1,ui x.ai id x.n⟩,true) from by unfold rK;rw[if_pos hk]]
  simp only[h_,List.cons_append,List.nil_append]at hR
  rw[Yf];simp(disch:=omega) only[↓pQ,pS,↓reduceIte,ak,ap,aq,au,av,aw,ax,ay,az,GU,GV,E7,hS]
  have gm:x.n<=6:=hn.2
  refine rq x.n.toNat (λi c=>[ii (i+1),.l (c.map c9)]) (B_ x.ai id) (λc=>some (gf ⟨(jG (lB x id aQ)).1,c⟩++[bb true])) [] (λi c=>c.length<=3*i) rfl (ek (by omega)) (by simp) ?_ ?_
  ·intro i c hi hc
   have tT:=Mg x.ai id c i
   refine⟨by omega,λs=>?_⟩
   have dM:(i:Int)+1<=x.n:=by omega
   simp(disch:=omega) only[↓pQ,pS,↓reduceIte,ak,ap,aq,au,av,aw,ax,ay,az,GU,GV,dM]
   refine rq 3 (λa c=>[ii a,.l (c.map c9)]) (pB x.ai id i) (λc=>s [ii ((i+1:Nat)+1),T.l (c.map c9)]) c (λa c=>c.length<=3*i+a) rfl (by unfold rounds;omega) (by omega) ?_ ?_
   ·intro a c ha hc
    have hl3:=YK x.ai id i c a
    refine⟨by omega,λs=>?_⟩
    have uj:(a:Int)<=2:=by omega
    have hz:=L8 hA id ((i:Int)+1) (a:Int)
    have hp:mR x.ai id ((i:Int)+1) (a:Int)>0↔0<=eF (iu id ((i:Int)+1) (a:Int)) x.ai:=by
     constructor
     ·intro rY
      rcases Int.lt_or_le (eF (iu id ((i:Int)+1) (a:Int)) x.ai) 0 with h|h
      ·have:=hz.2 h;omega
      ·exact h
     ·intro h0
      have h3:=G9 hA (j_ (l:=x.ai) h0 (tv _ _))
      unfold mR
      rw[if_neg (by omega)];omega
    unfold pB
    by_cases h0:0<=eF (iu id ((i:Int)+1) (a:Int)) x.ai
    ·rw[if_pos h0]
     have h4:=hp.2 h0
     simp(disch:=omega) only[↓pQ,pS,↓reduceIte,ak,ap,aq,au,av,aw,ax,ay,az,GU,GV,uj,Om _ _ _ _ _ _ h1,h4]
    ·rw[if_neg h0]
     have h4:¬mR x.ai id ((i:Int)+1) (a:Int)>0:=λrY=>h0 (hp.1 rY)
     simp(disch:=omega) only[↓pQ,pS,↓reduceIte,ak,ap,aq,au,av,aw,ax,ay,az,GU,GV,uj,Om _ _ _ _ _ _ h1,h4]
   ·intro c s' hc
    simp(disch:=omega) only[↓pQ,pS,↓reduceIte,ak,ap,aq,au,av,aw,ax,ay,az,GU,GV,]
  ·intro c s hc
   have dM:¬((x.n.toNat:Int)+1<=x.n):=by omega
   simp(disch:=omega) only[↓pQ,pS,↓reduceIte,ak,ap,aq,au,av,aw,ax,ay,az,GU,GV,dM,hR]
   rfl
def yI(e:fR):fR:=⟨e.node,e.ae,if 0>e.left-1 then 0 else e.left-1,e.both&&decide ((if 0>e.left-1 then 0 else e.left-1)>0)⟩
def FT(n:Node):Node:=⟨(jG {n.self with heard:=yF (n.gO.map yI)}).1,n.gO.map yI⟩
theorem Z0{n:Node}(h:tE n=true):l8 n.self=true∧n.gO.length=(ui n.self.net.ai n.self.id n.self.net.n).length∧n.gO.length<=18:=by
 unfold tE A3 at h
 simp only[bA,decide_eq_true_eq]at h
 have hN:=ul (qg h.1).1
 have:=YL n.self.net.ai n.self.id n.self.net.n (by omega)
 exact⟨h.1,by omega,by omega⟩
abbrev u8(n:Int):T:=.c (.int .u8 n)
def arC(n:Int):Prop:=0<=n∧n<=255
def vy{α:Type}(lt:α->α->Bool)(L:List α)(x:α):List α:=L.filter (λy=>lt y x)++[x]++L.filter (λy=>lt x y)
theorem arD{α:Type}{lt:α->α->Bool}(asy:∀a b,lt a b=true->lt b a=false)(L:List α)(x:α):(vy lt L x).length<=L.length+1:=by
 have:∀L:List α,(L.filter (λy=>lt y x)).length+(L.filter (λy=>lt x y)).length<=L.length:=by
  intro L
  induction L with
  |nil=>simp
  |cons y L ih=>
   have:=asy y x
   cases h1:lt y x<;>cases h2:lt x y<;>simp_all<;>omega
 have:=this L
 simp only[vy,List.length_append,List.length_singleton];omega
theorem Z1{α:Type} [Inhabited α]{ok:α->Bool}{lt:α->α->Bool}(tr:∀a b c,lt a b=true->lt b c=true->lt a c=true){L:List α}(h:eI ok lt L=true)(dQ:∀y∈L,ok y=true){x:α}(hx:ok x=true):eI ok lt (vy lt L x)=true:=by
 have hp:=aqv tr h
 refine Bi (λy hy=>?_) ?_
 ·simp only[vy,List.mem_append,List.mem_filter,List.mem_singleton]at hy
  rcases hy with(hy|hy)|hy
  ·exact dQ y hy.1
  ·rw[hy];exact hx
  ·exact dQ y hy.1
 ·unfold vy
  rw[List.pairwise_append,List.pairwise_append]
  refine⟨⟨hp.filter _,List.pairwise_singleton _ _,?_⟩,hp.filter _,?_⟩
  ·intro a ha b hb
   rw[List.mem_singleton]at hb
   rw[hb];exact(List.mem_filter.1 ha).2
  ·intro a ha b hb
   have hb:=(List.mem_filter.1 hb).2
   rcases List.mem_append.1 ha with ha|ha
   ·exact tr _ _ _ (List.mem_filter.1 ha).2 hb
   ·rw[List.mem_singleton]at ha
    rw[ha];exact hb
theorem Z2{α:Type} [Inhabited α]{ok:α->Bool}{lt:α->α->Bool}{l:List α}(h:eI ok lt l=true):∀x∈l,ok x=true:=by
 intro x hx
 obtain⟨i,hi,rfl⟩:=List.mem_iff_getElem.1 hx
 have:=cq.1 h i hi
 simp only[bA]at this
 have h1:=this.1
 rwa[eS hi]at h1
theorem arE(a b c:br)(h1:ml a b=true)(h2:ml b c=true):ml a c=true:=by simp only[ml,decide_eq_true_eq]at *;omega
theorem arF(a b:br)(h1:ml a b=true):ml b a=false:=by simp only[ml,decide_eq_true_eq,decide_eq_false_iff_not]at *;omega
theorem arG(a b c:bO)(h1:rB a b=true)(h2:rB b c=true):rB a c=true:=by simp only[rB,decide_eq_true_eq]at *;omega
def Bo(n:Int)(L:List br):Prop:=eI (nO n) ml L=true∧L.length<=12
def Bp(n:Int)(L:List bO):Prop:=eI (wi n) rB L=true
theorem Bo.put{n:Int}{L:List br}(h:Bo n L)(hl:L.length<12){a b c d:Int}(hn:2<=n∧n<=6)(ha:1<=a)(lT:a<b)(hb:b<=n)(hc:1<=c∧c<=1000)(hd:0<=d∧d<=2):Bo n (vy ml L ⟨a,b,c,d⟩):=by
 refine⟨Z1 arE h.1 (Z2 h.1) ?_,?_⟩
 ·simp only[nO,jr,bA,decide_eq_true_eq];omega
 ·have:=arD arF L ⟨a,b,c,d⟩
  omega
theorem Bp.put{n:Int}{L:List bO}(h:Bp n L){a b c:Int}{d:Bool}(ha:1<=a∧a<=n)(hb:1<=b∧b<=9)(hc:1<=c∧c<=1000):Bp n (vy rB L ⟨a,b,c,d⟩):=by
 refine Z1 arG h (Z2 h) ?_
 simp only[wi,jr,bA,decide_eq_true_eq];omega
theorem Bo.nil{n:Int}:Bo n []:=⟨rfl,by simp⟩
theorem Bp.nil{n:Int}:Bp n []:=rfl
def ss(a:Int):Prop:=1<=a∧a<=6
inductive Pa (s:List ah) (ar:Int):Int->Int->Int->Prop
 |nil {a:Int} (h:ss a):Pa s ar a a 0
 |cons {a u b n:Int} (h:ss a) (hc:dx s ar a u≠0) (p:Pa s ar u b n):Pa s ar a b (dx s ar a u+n)
theorem Pa.l{s:List ah}{ar a b n:Int}(h:Pa s ar a b n):ss a:=by cases h<;>assumption
theorem Pa.r{s:List ah}{ar a b n:Int}(h:Pa s ar a b n):ss b:=by induction h<;>assumption
theorem Pa.nn{s:List ah}(hs:eJ s=true){ar a b n:Int}(h:Pa s ar a b n):0<=n∧(n=0->a=b):=by
 induction h with
 |nil=>exact⟨by omega,λ_=>rfl⟩
 | @cons a u b n h hc p ih=>
  have:=G6 hs ar a u
  exact⟨by omega,λh=>by omega⟩
theorem Pa.snoc{s:List ah}{ar a u v n:Int}(h:Pa s ar a u n)(hc:dx s ar u v≠0)(hv:ss v):Pa s ar a v (n+dx s ar u v):=by
 induction h with
 |nil h=>rw[Int.zero_add];have:=Pa.cons h hc (.nil hv);rwa[Int.add_zero]at this
 |cons h rY p ih=>rw[Int.add_assoc];exact .cons h rY (ih hc)
theorem Pa.app{s:List ah}{ar a u v n m:Int}(h:Pa s ar a u n)(h':Pa s ar u v m):Pa s ar a v (n+m):=by
 induction h with
 |nil h=>rwa[Int.zero_add]
 |cons h rY p ih=>rw[Int.add_assoc];exact .cons h rY (ih h')
theorem Pa.last{s:List ah}{ar a v n:Int}(h:Pa s ar a v n):(a=v∧n=0)∨∃p m,Pa s ar a p m∧dx s ar p v≠0∧n=m+dx s ar p v:=by
 induction h with
 |nil h=>exact .inl ⟨rfl,rfl⟩
 | @cons a u b n h hc p ih=>
  right
  rcases ih with⟨rfl,rfl⟩|⟨p',m,h1,h2,h3⟩
  ·exact⟨a,0,.nil h,hc,by omega⟩
  ·exact⟨p',dx s ar a u+m,.cons h hc h1,h2,by omega⟩
def Bq(s:List ah)(ar fr a:Int)(W:List Way)(v:Int):Way:=
 if dx s ar a v=0∨v=fr then gt W v
 else if(gt W v).to=0∨(gt W a).cost+dx s ar a v<(gt W v).cost then⟨v,(gt W a).cost+dx s ar a v,if a=fr then [v]else(gt W a).aH⟩
 else if(gt W a).cost+dx s ar a v=(gt W v).cost then lM (gt W v) ⟨v,(gt W a).cost+dx s ar a v,if a=fr then [v]else(gt W a).aH⟩
 else gt W v
theorem arH{s:List ah}(hs:eJ s=true)(ar fr:Int){a:Int}(ha:ss a){W:List Way}(hl7:W.length=7){v:Int}(hv:ss v):gt (oM s ar fr a W) v=Bq s ar fr a W v:=by
 have hl:(List.range 6).length=6:=List.length_range
 have haa:Bq s ar fr a W a=gt W a:=by unfold Bq;rw[if_pos (.inl (Fw hs ar a))]
 have key:=NY (l:=List.range 6) (g:=mm s ar fr a) (c:=W) (Inv:=λi W'=>W'.length=7∧∀u:Int,ss u->gt W' u=if u<=i then Bq s ar fr a W u else gt W u)
  ⟨hl7,λu hu=>by rw[if_neg (by have:=hu.1;omega)]⟩ λi W' hi ⟨h1,h2⟩=>by
  rw[hl]at hi
  rw[eS (by rw[hl];omega),List.getElem_range]
  have m_:i<6:=by omega
  have ga:gt W' a=gt W a:=by rw[h2 a ha];split<;>simp[haa]
  have gi:gt W' ((i:Int)+1)=gt W ((i:Int)+1):=by rw[h2 _ ⟨by omega,by omega⟩,if_neg (by omega)]
  have hlen:(mm s ar fr a W' i).length=7:=by
   unfold mm
   split
   ·exact h1
   ·split
    ·simp[h1]
    ·split
     ·simp[h1]
     ·exact h1
  refine⟨hlen,λu hu=>?_⟩
  have hu0:0<=u:=by have:=hu.1;omega
  by_cases he:u=(i:Int)+1
  ·subst he
   rw[if_pos (by omega)]
   unfold mm Bq
   rw[gi,ga]
   split
   ·rw[gi]
   ·split
    ·rw[sr h1 m_ hu0,if_pos rfl]
    ·split
     ·rw[sr h1 m_ hu0,if_pos rfl]
     ·rw[gi]
  ·have:gt (mm s ar fr a W' i) u=gt W' u:=by
    unfold mm
    split
    ·rfl
    ·split
     ·rw[sr h1 m_ hu0,if_neg he]
     ·split
      ·rw[sr h1 m_ hu0,if_neg he]
      ·rfl
   rw[this,h2 u hu]
   exact xy ⟨λh=>by omega,λh=>by omega⟩ _ _
 rw[hl]at key
 have:=key.2 v hv
 rwa[if_pos (show v<=((6:Nat):Int) by have:=hv.2;omega)]at this
structure DI (s:List ah) (ar fr:Int) (W:List Way) (D:List Int):Prop where
 fr0:(gt W fr).to=fr∧(gt W fr).cost=0
 snd:∀v,ss v->(gt W v).to≠0->Pa s ar fr v (gt W v).cost
 rel:∀p∈D,∀v,ss v->dx s ar p v≠0->(gt W v).to≠0∧(gt W v).cost<=(gt W p).cost+dx s ar p v
 dN:∀v,ss v->v≠fr->(gt W v).to≠0->∀h,h∈(gt W v).aH↔∃p∈D,dx s ar p v≠0∧(gt W p).cost+dx s ar p v=(gt W v).cost∧(if p=fr then h=v else h∈(gt W p).aH)
theorem DI.start{s:List ah}{ar fr:Int}(h:ss fr):DI s ar fr (W0 fr) []:=by
 have g:∀v,ss v->(gt (W0 fr) v).to≠0->v=fr:=λv hv hn=>by
  have h1:=hv.1
  have h2:=hv.2
  rw[tG h (by omega) (by omega)]at hn
  split at hn
  ·rename_i e;exact e.symm
  ·exact absurd rfl hn
 have g0:gt (W0 fr) fr=⟨fr,0,[]⟩:=by have h1:=h.1;have h2:=h.2;rw[tG h (by omega) (by omega),if_pos rfl]
 refine⟨by rw[g0];exact⟨rfl,rfl⟩,λv hv hn=>?_,by simp,λv hv dj hn=>absurd (g v hv hn) dj⟩
 have:=g v hv hn
 subst this
 rw[g0];exact .nil h
theorem arI{a b:Way}(ha:fv a.aH)(hb:fv b.aH)(he:a.cost=b.cost)(h:Int):h∈(lM a b).aH↔h∈a.aH∨h∈b.aH:=by
 unfold lM
 rw[if_neg (by omega),if_neg (by omega),Fl]
 constructor
 ·exactλh=>h.2
 ·exactλh'=>⟨h'.elim (ha.2 h) (hb.2 h),h'⟩
theorem DI.step{s:List ah}(hs:eJ s=true){ar fr:Int}{W:List Way}{D:List Int}(hI:hY fr W D)(h:DI s ar fr W D)(hb:dP W D≠0):DI s ar fr (oM s ar fr (dP W D) W) (D++[dP W D]):=by
 obtain⟨h1,h2,h3,h4⟩:=(Bb W D).resolve_left λe=>hb e.1
 generalize ha:dP W D=a at*
 have hl:=hI.ok.len
 have bq:=λv (hv:ss v)=>arH hs ar fr (a:=a) h1 hl hv
 have ho:∀v,ss v->fv (gt W v).aH:=λv hv=>hI.ok.aH v (by have:=hv.1;omega) (by have:=hv.2;omega)
 have ib:∀v,ss v->fv (if a=fr then [v]else(gt W a).aH):=λv hv=>by
  split
  ·exact G0 hv.1 hv.2
  ·exact ho a h1
 have hD:∀p,p∈D∨p=a->gt (oM s ar fr a W) p=gt W p∧ss p:=by
  intro p hp
  rcases hp with hp|rfl
  ·have hm:=hI.mem p hp
   refine⟨?_,hm.1⟩
   rw[bq p hm.1]
   unfold Bq
   have hmo:=hI.mono p hp a h1.1 h1.2 h3 h2
   have hk:=G6 hs ar a p
   by_cases q1:dx s ar a p=0∨p=fr
   ·rw[if_pos q1]
   rw[if_neg q1,if_neg,if_neg]
   ·intro e;have:dx s ar a p≠0:=λe=>q1 (.inl e);omega
   ·rintro(e|e)
    ·exact hm.2 e
    ·omega
  ·refine⟨?_,h1⟩
   rw[bq p h1];unfold Bq;rw[if_pos (.inl (Fw hs ar p))]
 have hfr:ss fr:=hI.fr6
 refine⟨?_,λv hv hn=>?_,λp hp v hv hc=>?_,λv hv dj hn x=>?_⟩
 ·rw[bq fr hfr];unfold Bq;rw[if_pos (.inr rfl)];exact h.fr0
 ·rw[bq v hv]at hn⊢
  unfold Bq at hn⊢
  by_cases q1:dx s ar a v=0∨v=fr
  ·rw[if_pos q1]at hn⊢;exact h.snd v hv hn
  rw[if_neg q1]at hn⊢
  have Z3:=(h.snd a h1 h2).snoc (λe=>q1 (.inl e)) hv
  by_cases q2:(gt W v).to=0∨(gt W a).cost+dx s ar a v<(gt W v).cost
  ·rw[if_pos q2];exact Z3
  rw[if_neg q2]at hn⊢
  by_cases q3:(gt W a).cost+dx s ar a v=(gt W v).cost
  ·rw[if_pos q3]
   rcases Ow (gt W v) ⟨v,(gt W a).cost+dx s ar a v,if a=fr then [v]else(gt W a).aH⟩with e|e
   ·rw[e];exact h.snd v hv λe=>q2 (.inl e)
   ·rw[e];exact Z3
  ·rw[if_neg q3];exact h.snd v hv λe=>q2 (.inl e)
 ·have q_:p∈D∨p=a:=by simpa using hp
  obtain⟨g1,g2⟩:=hD p q_
  rw[g1,bq v hv]
  unfold Bq
  by_cases Z3:p=a
  ·rw[Z3]at hc⊢
   by_cases q1:v=fr
   ·subst q1
    rw[if_pos (.inr rfl)]
    have:=G6 hs ar a v
    have h5:=hI.ok.cost a (by omega) (by omega)
    have h6:=h.fr0
    have:=hv.1
    refine⟨by omega,by omega⟩
   ·rw[if_neg (λe=>e.elim hc q1)]
    split
    ·exact⟨by show v≠0;have:=hv.1;omega,by show(gt W a).cost+_<=_;omega⟩
    ·rename_i q2
     split
     ·rename_i q3
      have m6:=(hI.ok.to v (by have:=hv.1;omega) (by have:=hv.2;omega)).resolve_left (λe=>q2 (.inl e))
      rw[vp m6 rfl]
      refine⟨by have:=hv.1;omega,?_⟩
      rcases Ow (gt W v) ⟨v,(gt W a).cost+dx s ar a v,if a=fr then [v]else(gt W a).aH⟩with e|e
      ·rw[e];omega
      ·rw[e];exact Int.le_refl _
     ·exact⟨λe=>q2 (.inl e),by omega⟩
  ·have hpD:=q_.resolve_right Z3
   obtain⟨k1,k2⟩:=h.rel p hpD v hv hc
   split
   ·exact⟨k1,k2⟩
   ·split
    ·rename_i q2
     have q3:=q2.resolve_left k1
     exact⟨by show v≠0;have:=hv.1;omega,by show(gt W a).cost+_<=_;omega⟩
    ·split
     ·have m6:=(hI.ok.to v (by have:=hv.1;omega) (by have:=hv.2;omega)).resolve_left k1
      rw[vp m6 rfl]
      refine⟨by have:=hv.1;omega,?_⟩
      rcases Ow (gt W v) ⟨v,(gt W a).cost+dx s ar a v,if a=fr then [v]else(gt W a).aH⟩with e|e
      ·rw[e];exact k2
      ·rename_i q3;rw[e];show(gt W a).cost+_<=_;omega
     ·exact⟨k1,k2⟩
 ·
  have wC:∀c:Int,(∃p∈D++[a],dx s ar p v≠0∧(gt (oM s ar fr a W) p).cost+dx s ar p v=c∧(if p=fr then x=v else x∈(gt (oM s ar fr a W) p).aH))↔
    ((∃p∈D,dx s ar p v≠0∧(gt W p).cost+dx s ar p v=c∧(if p=fr then x=v else x∈(gt W p).aH))∨(dx s ar a v≠0∧(gt W a).cost+dx s ar a v=c∧x∈(if a=fr then [v]else(gt W a).aH))):=by
   intro c
   have ea:(if a=fr then x=v else x∈(gt W a).aH)↔x∈(if a=fr then [v]else(gt W a).aH):=by
    split<;>simp
   constructor
   ·rintro⟨p,hp,k1,k2,k3⟩
    have q_:p∈D∨p=a:=by simpa using hp
    rw[(hD p q_).1]at k2 k3
    rcases q_ with q_|rfl
    ·exact .inl ⟨p,q_,k1,k2,k3⟩
    ·exact .inr ⟨k1,k2,ea.1 k3⟩
   ·rintro(⟨p,hp,k1,k2,k3⟩|⟨k1,k2,k3⟩)
    ·exact⟨p,by simp[hp],k1,by rw[(hD p (.inl hp)).1];exact k2,by rw[(hD p (.inl hp)).1];exact k3⟩
    ·exact⟨a,by simp,k1,by rw[(hD a (.inr rfl)).1];exact k2,by rw[(hD a (.inr rfl)).1];exact ea.2 k3⟩
  rw[bq v hv]at hn⊢
  rw[wC]
  unfold Bq at hn⊢
  by_cases q1:dx s ar a v=0
  ·rw[if_pos (.inl q1)]at hn⊢
   rw[h.dN v hv dj hn]
   exact⟨.inl,λk=>k.resolve_right λk=>k.1 q1⟩
  rw[if_neg (λe=>e.elim q1 dj)]at hn⊢
  by_cases q2:(gt W v).to=0∨(gt W a).cost+dx s ar a v<(gt W v).cost
  ·rw[if_pos q2]at hn⊢
   show x∈(if a=fr then [v]else(gt W a).aH)↔_
   constructor
   ·exactλk=>.inr ⟨q1,rfl,k⟩
   ·rintro(⟨p,hp,k1,k2,k3⟩|⟨_,_,k⟩)
    ·obtain⟨k4,k5⟩:=h.rel p hp v hv k1
     rcases q2 with q2|q2
     ·exact absurd q2 k4
     ·have k2:(gt W p).cost+dx s ar p v=(gt W a).cost+dx s ar a v:=k2
      omega
    ·exact k
  rw[if_neg q2]at hn⊢
  have Z4:(gt W v).to≠0:=λe=>q2 (.inl e)
  by_cases q3:(gt W a).cost+dx s ar a v=(gt W v).cost
  ·rw[if_pos q3]
   have A_:(lM (gt W v) ⟨v,(gt W a).cost+dx s ar a v,if a=fr then [v]else(gt W a).aH⟩).cost=(gt W v).cost:=by
    rcases Ow (gt W v) ⟨v,(gt W a).cost+dx s ar a v,if a=fr then [v]else(gt W a).aH⟩with e|e
    ·exact e
    ·rw[e];exact q3
   rw[A_,arI (ho v hv) (ib v hv) q3.symm,h.dN v hv dj Z4]
   constructor
   ·exactλk=>k.imp_right λk=>⟨q1,q3,k⟩
   ·exactλk=>k.imp_right λk=>k.2.2
  ·rw[if_neg q3]
   rw[h.dN v hv dj Z4]
   exact⟨.inl,λk=>k.resolve_right λk=>q3 k.2.1⟩
section
variable {x:Net} {L U:List Bool}
end
theorem arJ(s:List ah)(r:ah):bL s r<s.length:=tv _ _
theorem Z5{s:List ah}{r:ah}(h:0<=bL s r):gt s (bL s r)∈s∧dX (gt s (bL s r)) r=true:=
 ⟨j_ h (arJ s r),t_ (λx:ah=>dX x r) s h⟩
theorem arK{s:List ah}{r:ah}(h:bL s r<0):∀x∈s,dX x r=false:=(BW _ _).1 h
def Z6(s:List ah)(r:ah):Bool:=fN r&&(if 0<=bL s r then decide ((gt s (bL s r)).seq<r.seq)else decide (s.length<150))
def vz(s:List ah)(r:ah):List ah:=if Z6 s r=true then dg s r else s
theorem arL{s:List ah}(h:eJ s=true):s.length<=150:=by
 unfold eJ at h
 simp only[bA,decide_eq_true_eq]at h
 exact h.1
theorem arM{s:List ah}(h1:iT s)(h2:∀r∈s,fN r=true)(h3:s.length<=150):eJ s=true:=by
 unfold eJ
 simp only[bA,decide_eq_true_eq]
 exact⟨h3,Bi h2 h1⟩
theorem arN{s:List ah}(h:eJ s=true):bI s:=λr hr=>by
 have:=M4 (yH h hr)
 omega
theorem Z7{α:Type}{p q:α->Bool}(hpq:∀a,p a=true->q a=false):∀{l:List α} {x:α},x∈l->p x=false->q x=false->(l.filter p).length+(l.filter q).length+1<=l.length
 |a::l,x,hx,hp,hq=>by
  have gen:∀l:List α,(l.filter p).length+(l.filter q).length<=l.length:=by
   intro l
   induction l with
   |nil=>simp
   |cons a l ih=>
    have:=hpq a
    cases h1:p a<;>cases h2:q a<;>simp_all<;>omega
  rcases List.mem_cons.1 hx with rfl|hx
  ·have:=gen l
   simp only[List.filter_cons,hp,hq,dI,if_false,List.length_cons]
   omega
  ·have ih:=Z7 hpq hx hp hq
   have:=hpq a
   cases h1:p a<;>cases h2:q a<;>simp_all<;>omega
theorem arP{s:List ah}{r:ah}(h:0<=bL s r):(dg s r).length<=s.length:=by
 obtain⟨h1,h2⟩:=Z5 h
 rw[sameKey_iff]at h2
 have:=Z7 (p:=λx=>eT x r) (q:=λx=>eT r x) (λa ha=>by
  rw[<-Bool.not_eq_true]
  intro hb
  rw[oL]at ha hb
  omega) h1 (by rw[<-Bool.not_eq_true,oL];omega) (by rw[<-Bool.not_eq_true,oL];omega)
 unfold dg
 simp only[List.length_append,List.length_singleton]
 omega
theorem arQ{s:List ah}(h:eJ s=true){r:ah}(hr:fN r=true)(hk:0<=bL s r∨s.length<150):eJ (dg s r)=true:=by
 have hl:=arL h
 refine arM (GY (Fg h) r) (λx hx=>?_) ?_
 ·rcases xJ hx with rfl|hx
  ·exact hr
  ·exact yH h hx
 ·rcases hk with hk|hk
  ·have:=arP hk;omega
  ·have:=Fh s r;omega
theorem arR{s:List ah}(h:eJ s=true)(r:ah):eJ (vz s r)=true:=by
 unfold vz
 split
 ·rename_i hi
  unfold Z6 at hi
  simp only[bA]at hi
  refine arQ h hi.1 ?_
  split at hi
  ·rename_i h0;exact .inl h0
  ·exact .inr (by simpa using hi.2)
 ·exact h
theorem arS(x:Self)(h1:x.net.ai.length<=1048576)(h2:x.net.aB.length<=1048576)(h3:x.heard.length<=1048576)(h4:x.store.length<=1048576)(h5:bI x.store):
  GF [ii x.id,ii x.aQ,ii x.net.n,.l (x.net.ai.map df),.l (x.net.aB.map dH),.l (x.heard.map aG),.l (x.store.map aC)]=some [ii x.id,ii x.aQ,ii x.net.n,.l (x.net.ai.map df),.l (x.net.aB.map dH),.l (x.heard.map aG),.l (x.store.map aC)]:=by
 rw[X5];simp(disch:=omega) only[↓pQ,pS,↓reduceIte,ak,ap,aq,au,av,aw,ax,ay,az,E3,On _ h4 h5]
theorem arT{x:Self}(h:l8 x=true){s:List ah}(hs:eJ s=true):l8 {x with store:=s}=true:=by
 unfold l8 at*
 simp only[bA]at*
 exact⟨h.1,h.2.1,h.2.2.1,h.2.2.2.1,hs⟩
def tL(n:Nat)(s:List ah):Prop:=eJ s=true∧s.length<=n∧(∀r∈s,r.seq<=5)∧(s.filter qG).length+(if n<100 then 0 else 119)<=n
theorem tL.ins{n:Nat}{s:List ah}(h:tL n s){r:ah}(hr:r.seq<=5)(hn:n≠99):tL (n+1) (vz s r):=by
 refine⟨arR h.1 r,?_,λx hx=>?_,?_⟩
 ·have:=h.2.1
  unfold vz
  split
  ·have:=Fh s r;omega
  ·omega
 ·unfold vz at hx
  split at hx
  ·rcases xJ hx with rfl|hx
   ·exact hr
   ·exact h.2.2.1 x hx
  ·exact h.2.2.1 x hx
 ·have h3:=h.2.2.2
  have h4:=ZG s r qG
  have:((vz s r).filter qG).length<=(s.filter qG).length+1:=by
   unfold vz
   split
   ·split at h4<;>omega
   ·omega
  split at h3<;>split<;>omega
theorem tL.nil:tL 0 []:=⟨rfl,by simp,by simp,by simp⟩
theorem tL.mono{n m:Nat}{s:List ah}(h:tL n s)(hm:n<=m)(hk:n+119<=m∨100<=n∨m<100):tL m s:=by
 refine⟨h.1,Nat.le_trans h.2.1 hm,h.2.2.1,?_⟩
 have h3:=h.2.2.2
 have h4:(s.filter qG).length<=n:=Nat.le_trans (List.length_filter_le _ _) h.2.1
 split at h3<;>split<;>omega
def xV(P:List (Int×Int)):List Int:=P.flatMap λp=>[p.1,p.2]
theorem Z8(P:List (Int×Int)):(xV P).length=2*P.length:=by
 induction P with
 |nil=>rfl
 |cons p P ih=>show(p.1::p.2::xV P).length=_;simp[ih];omega
theorem Z9:∀(P:List (Int×Int)) (k:Nat) (h:k<P.length),(xV P)[2*k]?=some P[k].1∧(xV P)[2*k+1]?=some P[k].2
 |p::P,0,_=>⟨rfl,rfl⟩
 |p::P,k+1,h=>by
  have ih:=Z9 P k (by simpa using h)
  show(p.1::p.2::xV P)[2*(k+1)]?=_∧(p.1::p.2::xV P)[2*(k+1)+1]?=_
  rw[show 2*(k+1)=2*k+1+1 by omega]
  simpa using ih
def FU(p q:Int×Int):Prop:=p.1<q.1∨p.1=q.1∧p.2<q.2
theorem arU{ok:Int->Int->Bool}{P:List (Int×Int)}(h1:P.Pairwise FU)(h2:∀p∈P,ok p.1 p.2=true):xI ok (xV P)=true:=by
 unfold xI
 rw[cq,Z8]
 intro k hk
 have lp:k<P.length:=by omega
 have g:∀k:Nat,(h:k<P.length)->gt (xV P) (2*(k:Int))=P[k].1∧gt (xV P) (2*(k:Int)+1)=P[k].2:=by
  intro k h
  have:=Z9 P k h
  rw[show(2*(k:Int))=((2*k:Nat):Int) by omega,show(((2*k:Nat):Int)+1)=((2*k+1:Nat):Int) by omega]
  exact⟨Jo this.1,Jo this.2⟩
 obtain⟨g1,g2⟩:=g k lp
 rw[g1,g2]
 simp only[bA,Bool.or_eq_true,Bool.not_eq_true',decide_eq_false_iff_not,decide_eq_true_eq]
 refine⟨h2 _ (List.getElem_mem lp),?_⟩
 rcases Nat.eq_zero_or_pos k with h0|h0
 ·exact .inl (by omega)
 ·right
  obtain⟨g3,g4⟩:=g (k-1) (by omega)
  have e:2*((k-1:Nat):Int)=2*(k:Int)-2:=by omega
  rw[e]at g3
  rw[show 2*((k-1:Nat):Int)+1=2*(k:Int)-1 by omega]at g4
  rw[g3,g4]
  exact List.pairwise_iff_getElem.1 h1 (k-1) k (by omega) lp (by omega)
section
variable {B:List Int} (hB:∀x∈B,arC x) (hl:B.length<=1048576) {x:Net} (hx:rC x=true∧2<=x.n∧x.aB.length<=2) {id aQ:Int} (ie:1<=id∧id<=x.n) (kH:0<=aQ∧aQ<=1)
 {P:List (Int×Int)} (hP1:P.Pairwise FU) (hP2:∀p∈P,decide (0<=eF (iu id p.1 p.2) x.ai)=true)
include hB hl hx ie kH hP1 hP2
end
theorem arV(r:ah):dX (fy r) r=true:=by
 unfold fy
 split<;>(rw[sameKey_iff];exact⟨rfl,rfl,rfl,rfl⟩)
theorem Z_(x:Self)(r:ah):dX (vu x r) r=true:=arV r
theorem FV(x:Self)(r:ah):dX (M_ x r) r=true:=by rw[sameKey_iff];exact⟨rfl,rfl,rfl,rfl⟩
theorem aac{a b:ah}(h:¬dX a b=true):dX a b=false:=by
 cases hc:dX a b with
 |false=>rfl
 |true=>exact absurd hc h
theorem Nd{s:List ah}(h:iT s){f:ah->ah}(hf:∀r,dX (f r) r=true):s.Pairwise λa b=>dX (f a) (f b)=false:=by
 refine List.Pairwise.imp (λ{a b} lT=>aac λhc=>?_) h
 have h1:=YN lT
 rw[xS (Ha (hf a)) (xS hc (hf b))]at h1
 cases h1
theorem Nf{f:ah->ah}:∀{l s:List ah},iT s->iT (eU f s l)
 | [],_,h=>h
 |a::l,s,h=>Nf (l:=l) (GY h (f a))
theorem Br{f:ah->ah}{p:ah->Bool}:∀(l c:List ah),l.foldl (λc r=>if p r=true then dg c (f r)else c) c=eU f c (l.filter p)
 | [],c=>rfl
 |a::l,c=>by
  rw[List.foldl_cons,Br l,List.filter_cons]
  cases h:p a<;>rfl
theorem Ng{x:Self}{W:List ah}(hW:iT W)(hs:iT x.store){r:ah}:r∈om x W↔(∃w∈W,pH x.store w=true∧r=M_ x w)∨∃o∈x.store,qi x W o=true∧r=vu x o:=by
 have e1:W.foldl (pI x) []=eU (M_ x) [] (W.filter (pH x.store)):=Br (f:=M_ x) (p:=pH x.store) W []
 have e2:om x W=eU (vu x) (W.foldl (pI x) []) (x.store.filter (qi x W)):=Br (f:=vu x) (p:=qi x W) x.store _
 rw[e2,Hb ((Nd hs (Z_ x)).filter _),e1,Hb ((Nd hW (FV x)).filter _)]
 constructor
 ·rintro(⟨o,ho,e⟩|⟨⟨w,hw,e⟩|⟨h,_⟩,_⟩)
  ·obtain⟨h1,h2⟩:=List.mem_filter.1 ho
   exact .inr ⟨o,h1,h2,e⟩
  ·obtain⟨h1,h2⟩:=List.mem_filter.1 hw
   exact .inl ⟨w,h1,h2,e⟩
  ·cases h
 ·rintro(⟨w,hw,h,e⟩|⟨o,ho,h,e⟩)
  ·refine .inr ⟨.inl ⟨w,List.mem_filter.2 ⟨hw,h⟩,e⟩,λo ho=>aac λhc=>?_⟩
   obtain⟨_,h2⟩:=List.mem_filter.1 ho
   unfold qi at h2
   simp only[bA,decide_eq_true_eq]at h2
   have h3:=arK h2.2.1 w hw
   rw[xS (Ha (FV x w)) (xS (e▸hc) (Z_ x o))]at h3
   cases h3
  ·exact .inl ⟨o,List.mem_filter.2 ⟨ho,h⟩,e⟩
theorem Nh(x:Self)(W:List ah):iT (om x W):=by
 have e1:W.foldl (pI x) []=eU (M_ x) [] (W.filter (pH x.store)):=Br (f:=M_ x) (p:=pH x.store) W []
 have e2:om x W=eU (vu x) (W.foldl (pI x) []) (x.store.filter (qi x W)):=Br (f:=vu x) (p:=qi x W) x.store _
 rw[e2,e1]
 exact Nf (Nf .nil)
theorem Ni{s N:List ah}(hN:iT N){r:ah}:r∈eU same s N↔r∈N∨(r∈s∧∀o∈N,dX r o=false):=by
 rw[Hb (f:=same) (Nd hN λr=>OG r)]
 constructor
 ·rintro(⟨o,ho,e⟩|h)
  ·exact .inl (e▸ho)
  ·exact .inr h
 ·rintro(h|h)
  ·exact .inl ⟨r,h,rfl⟩
  ·exact .inr h
theorem Nj{f:ah->ah}{x:ah}:∀{l s:List ah},x∈eU f s l->x∈s∨∃y∈l,x=f y
 | [],s,h=>.inl h
 |a::l,s,h=>by
  rcases Nj (l:=l) h with h|⟨y,hy,e⟩
  ·rcases xJ h with h|h
   ·exact .inr ⟨a,.head _,h⟩
   ·exact .inl h
  ·exact .inr ⟨y,.tail _ hy,e⟩
theorem arW{x:Self}{S:List ah}{w:ah}(h:w∈lA x S):w∈eV x∨w∈nT x S∨w∈FM x:=by
 rcases Nj h with h|⟨y,hy,e⟩
 ·cases h
 ·rw[e]
  rcases List.mem_append.1 hy with hy|hy
  ·rcases List.mem_append.1 hy with hy|hy
   ·exact .inl hy
   ·exact .inr (.inl hy)
  ·exact .inr (.inr hy)
theorem Nk(x:Self)(S:List ah):iT (lA x S):=Nf .nil
theorem aad{x:Self}{S:List ah}{w:ah}(h:w∈lA x S):w.owner=x.id∧(w.kind=3->w∈FM x):=by
 rcases arW h with h|h|h
 ·have:=xT h
  exact⟨this.2.2.1,λhk=>by omega⟩
 ·unfold nT at h
  split at h
  ·obtain⟨a,_,h⟩:=List.mem_flatMap.1 h
   have:=M5 h
   exact⟨this.2.2.1,λhk=>by omega⟩
  ·cases h
 ·refine⟨?_,λ_=>h⟩
  obtain⟨t,_,rfl⟩:=List.mem_map.1 h
  rfl
section
variable {x:Self} {Q:Int} {k:Nat} (h:l8 x=true) (hb:x.aQ<=1) (hq:(∀r∈x.store,r.seq<=Q)∧0<=Q∧Q<=90000) (h3:(x.store.filter qG).length<=k∧k<=22) (ht:x.net.aB.length<=2)
def Bs(x:Self):List ah:=om x (lA x (pF x.store x.id (eV x)))
def vA(x:Self):List ah:=eU same x.store (Bs x)
theorem arX(h:l8 x=true){r:ah}(hr:r∈Bs x):r.owner=x.id:=by
 have vx:=Fg (qg h).2.2.2.2.2
 rcases(Ng (Nk _ _) vx).1 hr with⟨w,hw,_,e⟩|⟨o,_,hg,e⟩
 ·rw[e];exact(aad hw).1
 ·unfold qi at hg
  simp only[bA,beq_iff_eq]at hg
  rw[e,<-hg.1]
  exact(sameKey_iff.1 (Z_ x o)).2.2.1
include h hb hq in
theorem aae{r:ah}(hr:r∈Bs x):r.seq<=Q+1001∧1000*x.aQ<r.seq∧qh x.store r<r.seq:=by
 obtain⟨hN,ie,kH,jl,uS,cf⟩:=qg h
 have vx:=Fg cf
 have ho:∀q:ah,0<=qh x.store q∧qh x.store q<=Q:=by
  intro q
  refine⟨(FQ cf q).1,?_⟩
  unfold qh
  split
  ·omega
  ·exact hq.1 _ (Z5 (s:=x.store) (r:=q) (by omega)).1
 have hs:∀q:ah,tI x q<=Q+1001∧1000*x.aQ<tI x q∧qh x.store q<tI x q:=by
  intro q
  have:=ho q
  unfold tI
  split<;>omega
 have hk:∀{a b:ah},dX a b=true->qh x.store a=qh x.store b:=by
  intro a b lT
  have e:bL x.store a=bL x.store b:=by
   unfold bL
   congr 1
   funext y
   rw[Bool.eq_iff_iff]
   exact⟨λhh=>xS hh lT,λhh=>xS hh (Ha lT)⟩
  unfold qh
  rw[e]
 rcases(Ng (Nk _ _) vx).1 hr with⟨w,hw,_,e⟩|⟨o,_,hg,e⟩
 ·rw[hk (e▸FV x w:dX r w=true),e]
  exact hs w
 ·rw[hk (e▸Z_ x o:dX r o=true),e]
  exact hs o
include h hb hq in
theorem aaf:((Bs x).all λr=>decide (r.seq<=100000))=true:=by
 rw[List.all_eq_true]
 intro r hr
 have:=aae h hb hq hr
 rw[decide_eq_true_eq];omega
include h hb hq in
theorem arY{r:ah}(hr:r∈vA x):fN r=true:=by
 have cf:=(qg h).2.2.2.2.2
 rcases(Ni (Nh _ _)).1 hr with hr|⟨hr,_⟩
 ·exact Nc h _ (aaf h hb hq) r hr
 ·exact yH cf hr
include h h3 ht in
theorem arZ:((vA x).filter qG).length<=k+2:=by
 have cf:=(qg h).2.2.2.2.2
 have vx:=Fg cf
 have f1:Fit k (x.store.filter qG):=⟨vx.filter _,λr hr=>arN cf r (List.mem_filter.1 hr).1,h3.1⟩
 have hl:=ZN x
 have f2:=Fit.mT (f:=same) (l:=FM x) (λr hr=>by obtain⟨t,_,rfl⟩:=List.mem_map.1 hr;simp[same,pG]) f1
 refine Nat.le_trans (u4_ ((Nf vx).filter qG) f2.so λr hr=>?_) (Nat.le_trans f2.len (by omega))
 obtain⟨hr,hk⟩:=List.mem_filter.1 hr
 have lp:r.kind=3:=by simpa[qG]using hk
 rcases(Ni (Nh _ _)).1 hr with hr|⟨hr,_⟩
 ·rcases(Ng (Nk _ _) vx).1 hr with⟨w,hw,_,e⟩|⟨o,ho,_,e⟩
  ·exact b9.mU (z:=w) (e▸FV x w) ((aad hw).2 (by rw[e]at lp;exact lp))
  ·have vP:=Z_ x o
   refine b9.mT ⟨o,List.mem_filter.2 ⟨ho,?_⟩,e▸vP⟩
   have:=(sameKey_iff.1 vP).2.1
   rw[e]at lp
   simp[qG,<-this,lp]
 ·exact b9.mT ⟨r,List.mem_filter.2 ⟨hr,hk⟩,OG r⟩
include h hb hq h3 ht in
theorem aag:oN (k+2) (vA x):=⟨Nf (Fg (qg h).2.2.2.2.2),λr hr=>arY h hb hq hr,arZ h h3 ht⟩
include h hb hq h3 ht in
theorem ar0:jG x=({x with store:=vA x},Bs x):=by
 unfold jG
 rw[if_pos h]
 unfold vw
 have:=(aag h hb hq h3 ht).len
 exact if_pos ⟨aaf h hb hq,by show(vA x).length<=150;omega⟩
end
def qj(e:fR):Int×Int:=(e.node,e.ae)
def nU(ls:List br)(id m a:Int)(c:List fR):Prop:=(c.Pairwise λx y=>FU (qj x) (qj y))∧∀e∈c,0<=eF (iu id e.node e.ae) ls∧(e.node<m∨e.node=m∧e.ae<a)
theorem nU.step{ls:List br}{id:Int}{v a:Nat}{c:List fR}(h:nU ls id ((v:Int)+1) a c):nU ls id ((v:Int)+1) ((a:Int)+1) (pB ls id v c a):=by
 unfold pB
 split
 ·rename_i hf
  refine⟨List.pairwise_append.2 ⟨h.1,List.pairwise_singleton _ _,λx hx y hy=>?_⟩,λe he=>?_⟩
  ·rw[List.mem_singleton]at hy
   rw[hy]
   exact(h.2 x hx).2
  ·rcases List.mem_append.1 he with he|he
   ·have:=h.2 e he
    exact⟨this.1,by omega⟩
   ·rw[List.mem_singleton]at he
    rw[he]
    exact⟨hf,.inr ⟨rfl,by show(a:Int)<(a:Int)+1;omega⟩⟩
 ·refine⟨h.1,λe he=>?_⟩
  have:=h.2 e he
  exact⟨this.1,by omega⟩
theorem nU.row{ls:List br}{id:Int}{v:Nat}{c:List fR}(h:nU ls id ((v:Int)+1) 0 c):nU ls id ((v:Int)+1+1) 0 (B_ ls id c v):=by
 have h0:nU ls id ((v:Int)+1) ((0:Nat):Int) c:=h
 have h1:=h0.step
 have h1:nU ls id ((v:Int)+1) ((1:Nat):Int) (pB ls id v c 0):=h1
 have h2:=h1.step
 have h2:nU ls id ((v:Int)+1) ((2:Nat):Int) (pB ls id v (pB ls id v c 0) 1):=h2
 have h3:=h2.step
 show nU ls id ((v:Int)+1+1) 0 (pB ls id v (pB ls id v (pB ls id v c 0) 1) 2)
 refine⟨h3.1,λe he=>?_⟩
 have:=h3.2 e he
 exact⟨this.1,by omega⟩
theorem aah(ls:List br)(id:Int):∀k:Nat,nU ls id ((k:Int)+1) 0 ((List.range k).foldl (B_ ls id) [])
 |0=>⟨.nil,by simp⟩
 |k+1=>by
  rw[List.range_succ,List.foldl_append]
  have:=(aah ls id k).row
  show nU ls id (((k+1:Nat):Int)+1) 0 (B_ ls id _ k)
  rw[show(((k+1:Nat):Int)+1)=(k:Int)+1+1 by omega]
  exact this
theorem ar6(es:List fR):yF es=xV ((es.filter λe=>e.both).map qj):=by
 have:∀(l:List fR) (c:List Int),l.foldl Mf c=c++xV ((l.filter λe=>e.both).map qj):=by
  intro l
  induction l with
  |nil=>intro c;simp[xV]
  |cons e l ih=>
   intro c
   rw[List.foldl_cons,ih,List.filter_cons]
   unfold Mf
   cases hb:e.both with
   |true=>simp[xV,qj]
   |false=>simp
 exact this es []
def mo(x:Self)(es:List fR):Prop:=es.map qj=(ui x.net.ai x.id x.net.n).map qj
theorem ar7{n:Node}(h:tE n=true):mo n.self n.gO:=by
 obtain⟨_,hl,_⟩:=Z0 h
 unfold tE A3 at h
 simp only[bA,decide_eq_true_eq]at h
 have ha:=cq.1 h.2.1.2
 refine List.ext_getElem (by simp[hl]) λi h1 h2=>?_
 rw[List.length_map]at h1 h2
 have:=ha i h1
 unfold A2 at this
 simp only[bA,decide_eq_true_eq]at this
 rw[List.getElem_map,List.getElem_map,<-eS h1,<-eS h2]
 exact Prod.ext this.1 this.2.1
theorem mo.heard{x:Self}{es:List fR}(h:mo x es)(hn:0<=x.net.n):(yF es).length%2=0∧xI (λv a=>decide (0<=eF (iu x.id v a) x.net.ai)) (yF es)=true:=by
 have hA:=aah x.net.ai x.id x.net.n.toNat
 have hA:nU x.net.ai x.id ((x.net.n.toNat:Int)+1) 0 (ui x.net.ai x.id x.net.n):=hA
 have hp:(es.map qj).Pairwise FU:=by
  rw[h]
  exact List.pairwise_map.2 hA.1
 rw[ar6]
 refine⟨by rw[Z8];omega,arU (List.pairwise_map.2 ((List.pairwise_map.1 hp).filter _)) λp q_=>?_⟩
 obtain⟨e,he,rfl⟩:=List.mem_map.1 q_
 have:qj e∈(ui x.net.ai x.id x.net.n).map qj:=by rw[<-h];exact List.mem_map_of_mem (List.mem_filter.1 he).1
 obtain⟨e',he',e1⟩:=List.mem_map.1 this
 rw[decide_eq_true_eq,<-e1]
 exact(hA.2 e' he').1
theorem ar8{x:Self}(h:l8 x=true){es:List fR}(he:mo x es):l8 {x with heard:=yF es}=true:=by
 have hn:=(ul (qg h).1).1
 obtain⟨h1,h2⟩:=he.heard (by omega)
 unfold l8 at h⊢
 simp only[bA,decide_eq_true_eq,bC]at h⊢
 exact⟨h.1,h.2.1,h.2.2.1,⟨h1,h2⟩,h.2.2.2.2⟩
theorem ar9{x:Self}{es:List fR}(h:mo x es):mo x (es.map yI):=by
 unfold mo at h⊢
 rw[List.map_map]
 exact h
structure Bt (Q:Int) (k:Nat) (n:Node):Prop where
 ok:tE n=true
 aQ:n.self.aQ<=1
 seq:∀r∈n.self.store,r.seq<=Q
 three:(n.self.store.filter qG).length<=k
 aB:n.self.net.aB.length<=2
theorem ar_{w e:fR}(h:A2 w e=true):A2 w (yI e)=true:=by
 unfold A2 at h⊢
 simp only[bA,bC,decide_eq_true_eq,Bool.not_eq_true']at h⊢
 refine⟨h.1,h.2.1,?_,?_⟩
 ·show 0<=(if 0>e.left-1 then 0 else e.left-1)∧(if 0>e.left-1 then 0 else e.left-1)<=3
  split<;>omega
 ·show(e.both&&decide ((if 0>e.left-1 then 0 else e.left-1)>0)&&decide ((if 0>e.left-1 then 0 else e.left-1)=0))=false
  by_cases h0:(if 0>e.left-1 then 0 else e.left-1)=0
  ·rw[h0];simp
  ·simp[h0]
theorem Bt.tick{Q:Int}{k:Nat}{n:Node}(h:Bt Q k n)(hQ:0<=Q∧Q<=90000)(hk:k<=22):Bt (Q+1001) (k+2) (FT n)∧(FT n).self={n.self with heard:=yF (n.gO.map yI),store:=vA {n.self with heard:=yF (n.gO.map yI)}}:=by
 obtain⟨x,es⟩:=n
 obtain⟨dQ,hb,hq,h3,ht⟩:=h
 simp only at hb hq h3 ht
 have hA:=ar9 (ar7 dQ)
 obtain⟨hs,C8,_⟩:=Z0 dQ
 simp only at hs C8
 have hx:=ar8 hs hA
 have rJ:(∀r∈({x with heard:=yF (es.map yI)}:Self).store,r.seq<=Q)∧0<=Q∧Q<=90000:=⟨hq,hQ⟩
 have NS:(({x with heard:=yF (es.map yI)}:Self).store.filter qG).length<=k∧k<=22:=⟨h3,hk⟩
 have r1:=ar0 hx hb rJ NS ht
 have r2:=aag hx hb rJ NS ht
 have e:FT ⟨x,es⟩=⟨{x with heard:=yF (es.map yI),store:=vA {x with heard:=yF (es.map yI)}},es.map yI⟩:=by
  unfold FT
  simp only
  rw[r1]
 rw[e]
 refine⟨⟨?_,hb,λr hr=>?_,r2.2.2,ht⟩,rfl⟩
 ·unfold tE A3
  simp only[bA,decide_eq_true_eq]
  refine⟨arT hx (r2.ok (by omega)),⟨by rw[List.length_map,C8],cq.2 λi hi=>?_⟩,?_⟩
  ·rw[List.length_map]at hi
   have h1:tE ⟨x,es⟩=true:=dQ
   unfold tE A3 at h1
   simp only[bA,decide_eq_true_eq]at h1
   have:=ar_ (cq.1 h1.2.1.2 i hi)
   rw[eS (l:=es.map yI) (by simpa using hi),List.getElem_map,<-eS hi]
   exact this
  ·rw[apk]
 ·rcases(Ni (Nh _ _)).1 hr with hr|⟨hr,_⟩
  ·exact(aae hx hb rJ hr).1
  ·have:=hq r hr
   omega
theorem ar'(x:Self)(es:List fR)(h1:x.net.ai.length<=1048576)(h2:x.net.aB.length<=1048576)(h3:x.heard.length<=1048576)(h4:x.store.length<=1048576)(h5:bI x.store)(h6:es.length<=1048576):
  Vz [ii x.id,ii x.aQ,ii x.net.n,.l (x.net.ai.map df),.l (x.net.aB.map dH),.l (x.heard.map aG),.l (x.store.map aC),.l (es.map c9)]=some [ii x.id,ii x.aQ,ii x.net.n,.l (x.net.ai.map df),.l (x.net.aB.map dH),.l (x.heard.map aG),.l (x.store.map aC),.l (es.map c9)]:=by
 have hc:=arS x h1 h2 h3 h4 h5
 try simp only[h_]at hc
 rw[anG];simp(disch:=omega) only[↓pQ,pS,↓reduceIte,ak,ap,aq,au,av,aw,ax,ay,az,Ll,hc]
def lC(x:Net)(k:Nat):Node:=(rK x ((k:Int)+1) 0).1
def pT(x:Net)(i:Nat):List Node:=(List.range i).map (lC x)
def oq(x:Net)(i:Nat):List ah:=(List.range i).flatMap λk=>(lC x k).self.store
def Bu(x:Net):World×Bool:=
 if rC x=true then(⟨x,List.replicate x.ai.length true,List.replicate x.n.toNat true,List.replicate x.n.toNat 0,pT x x.n.toNat,[],oq x x.n.toNat,0⟩,true)else(⟨⟨0,[],[]⟩,[],[],[],[],[],[],0⟩,false)
theorem Nl(x:Net)(i:Nat):pT x (i+1)=pT x i++[lC x i]:=by unfold pT;rw[List.range_succ,List.map_append];rfl
theorem Nm(x:Net)(i:Nat):oq x (i+1)=oq x i++(lC x i).self.store:=by unfold oq;rw[List.range_succ,List.flatMap_append];simp
theorem FW(x:Net)(i:Nat):(pT x i).length=i:=by unfold pT;simp
theorem asa(ls:List br)(id n:Int)(hn:n<=6):(∀e∈ui ls id n,vh e)∧(ui ls id n).length<=18:=by
 refine⟨?_,YL ls id n hn⟩
 have h1:∀(v:Nat),v<6->∀(aZs:List Nat) (c:List fR),(∀a∈aZs,a<3)->(∀e∈c,vh e)->∀e∈aZs.foldl (pB ls id v) c,vh e:=by
  intro v hv aZs
  induction aZs with
  |nil=>intro c _ h;exact h
  |cons a aZs ih=>
   intro c ha hc
   rw[List.foldl_cons]
   refine ih _ (λb hb=>ha b (.tail _ hb)) λe he=>?_
   unfold pB at he
   split at he
   ·rcases List.mem_append.1 he with he|he
    ·exact hc e he
    ·rw[List.mem_singleton]at he
     subst he
     have:=ha a (.head _)
     exact⟨fE.mk (by show _<=(v:Int)+1;omega) (by show(v:Int)+1<_;omega),fE.mk (by show _<=(a:Int);omega) (by show(a:Int)<_;omega),(show fE 0 from fE.mk (by decide) (by decide))⟩
   ·exact hc e he
 have h2:∀(vs:List Nat) (c:List fR),(∀v∈vs,v<6)->(∀e∈c,vh e)->∀e∈vs.foldl (B_ ls id) c,vh e:=by
  intro vs
  induction vs with
  |nil=>intro c _ h;exact h
  |cons v vs ih=>
   intro c hv hc
   rw[List.foldl_cons]
   exact ih _ (λb hb=>hv b (.tail _ hb)) (h1 v (hv v (.head _)) _ _ (λa ha=>List.mem_range.1 ha) hc)
 exact h2 _ _ (λv hv=>by have:=List.mem_range.1 hv;omega) (by simp)
theorem He{α:Type}{f:α->Nat}(hf:∀x,f x=0):∀l:List α,bz f l=l.length
 | []=>rfl
 |a::l=>by simp only[bz,He hf l,hf a,List.length_cons];omega
structure asb (x:Net) (k:Nat):Prop where
 ok:Ek (lC x k)
 qL:Ar (lC x k)<=2000
 len:(lC x k).self.store.length<=150
 Nn:bz nz (lC x k).self.store<=1050
 sorted:iT (lC x k).self.store
 owner:∀r∈(lC x k).self.store,r.owner=(k:Int)+1
theorem Bv{x:Net}(hx:tq x)(hN:rC x=true){k:Nat}(hk6:k<=6):asb x k:=by
 obtain⟨n1,hl,nj,hA,hT⟩:=ul hN
 obtain⟨i3,l1,l2⟩:=hx
 have s1:∀m:List br,bz tY m=m.length:=He λ_=>rfl
 have s2:∀m:List bO,bz tZ m=m.length:=He λ_=>rfl
 have s3:∀m:List fR,bz xw m=m.length:=He λ_=>rfl
 have ie:fE ((k:Int)+1):=fE.mk (by omega) (by omega)
 by_cases hk:l8 (lB x ((k:Int)+1) 0)=true
 ·have e0:lC x k=⟨(jG (lB x ((k:Int)+1) 0)).1,ui x.ai ((k:Int)+1) x.n⟩:=by unfold lC rK;rw[if_pos hk]
  have HS:xv (lB x ((k:Int)+1) 0)<=1048576:=by
   unfold xv
   show bz tY x.ai+bz tZ x.aB+bz vg []+bz nz []<=_
   rw[s1,s2]
   simp only[bz]
   omega
  have rk:=arz (x:=lB x ((k:Int)+1) 0) HS (by intro r hr;cases hr)
  obtain⟨y1,y2,y3,y4,y5,y6,y7,y8,y9,y10⟩:=rk
  have he:=asa x.ai ((k:Int)+1) x.n n1.2
  obtain⟨g1,g2,g3,g4⟩:(jG (lB x ((k:Int)+1) 0)).1.store.length<=150∧bz nz (jG (lB x ((k:Int)+1) 0)).1.store<=1050∧iT (jG (lB x ((k:Int)+1) 0)).1.store∧∀r∈(jG (lB x ((k:Int)+1) 0)).1.store,r.owner=(k:Int)+1:=by
   unfold jG
   rw[if_pos hk]
   unfold vw
   split
   ·rename_i hc
    have hf:=Nc hk _ hc.1
    have hP:∀(l s:List ah),(∀r∈s,fN r=true)->(∀r∈l,fN r=true)->∀r∈eU same s l,fN r=true:=by
     intro l
     induction l with
     |nil=>intro s h1 _;exact h1
     |cons a l ih=>
      intro s h1 h2
      refine ih (dg s (same a)) (λr hr=>?_) λr hr=>h2 r (.tail _ hr)
      rcases xJ hr with e|hr
      ·rw[e];exact h2 a (.head _)
      ·exact h1 r hr
    have h7:=Nb λr hr=>(Bn (hP _ [] (by simp) hf r hr)).2
    have h8:(eU same [] (om (lB x ((k:Int)+1) 0) (lA (lB x ((k:Int)+1) 0) (pF (lB x ((k:Int)+1) 0).store (lB x ((k:Int)+1) 0).id (eV (lB x ((k:Int)+1) 0)))))).length<=150:=hc.2
    refine⟨h8,by show bz nz (eU same [] _)<=_;omega,(show iT (eU same [] _) from Nf .nil),λr hr=>?_⟩
    rcases Nj (show r∈eU same [] _ from hr)with h|⟨y,hy,e⟩
    ·cases h
    ·rw[e];exact arX hk hy
   ·exact⟨by show([]:List ah).length<=_;simp,by show bz nz []<=_;simp[bz],.nil,by intro r hr;cases hr⟩
  generalize jG (lB x ((k:Int)+1) 0)=p at*
  refine⟨?_,?_,by rw[e0];exact g1,by rw[e0];exact g2,by rw[e0];exact g3,by rw[e0];exact g4⟩
  ·rw[e0]
   exact⟨by rw[y1];exact ie,by rw[y2];exact(show fE (0:Int) from fE.mk (by decide) (by decide)),by rw[y3];exact i3,by rw[y3];exact l1,by rw[y3];exact l2,by rw[y4];exact⟨by simp[lB],by intro r hr;cases hr⟩,⟨by unfold maxLen;show p.1.store.length<=_;omega,y5⟩,⟨by unfold maxLen;show(ui x.ai ((k:Int)+1) x.n).length<=_;omega,he.1⟩⟩
  ·rw[e0]
   unfold Ar
   show bz tY p.1.net.ai+bz tZ p.1.net.aB+bz vg p.1.heard+bz nz p.1.store+bz xw (ui x.ai ((k:Int)+1) x.n)<=_
   rw[y3,y4,s3,s1,s2]
   show x.ai.length+x.aB.length+bz vg []+_+_<=_
   simp only[bz]
   omega
 ·have e0:lC x k=ww:=by unfold lC rK;rw[if_neg hk]
  refine⟨?_,?_,by rw[e0];decide,by rw[e0];decide,by rw[e0];exact .nil,by rw[e0];intro r hr;cases hr⟩
  ·rw[e0]
   exact⟨fE.mk (by decide) (by decide),fE.mk (by decide) (by decide),fE.mk (by decide) (by decide),⟨by simp[ww],by simp[ww]⟩,⟨by simp[ww],by simp[ww]⟩,⟨by simp[ww],by simp[ww]⟩,⟨by simp[ww],by simp[ww]⟩,⟨by simp[ww],by simp[ww]⟩⟩
  ·rw[e0];decide
theorem FX{x:Net}(hx:tq x)(hN:rC x=true):∀i:Nat,i<=6->(oq x i).length<=150*i∧bz nz (oq x i)<=1050*i∧(∀r∈oq x i,rl r)∧∀r∈oq x i,r.owner<=(i:Int)
 |0,_=>⟨by simp[oq],by simp[oq,bz],by simp[oq],by simp[oq]⟩
 |i+1,h=>by
  obtain⟨h1,h2,h3,h4⟩:=FX hx hN i (by omega)
  have p:=Bv hx hN (k:=i) (by omega)
  have ba:∀a b:List ah,bz nz (a++b)=bz nz a+bz nz b:=by
   intro a b
   induction a with
   |nil=>simp[bz]
   |cons c a ih=>simp only[List.cons_append,bz,ih];omega
  rw[Nm]
  refine⟨by rw[List.length_append];have:=p.len;omega,by rw[ba];have:=p.Nn;omega,λr hr=>?_,λr hr=>?_⟩
  ·rcases List.mem_append.1 hr with hr|hr
   ·exact h3 r hr
   ·exact p.ok.2.2.2.2.2.2.1.2 r hr
  ·rcases List.mem_append.1 hr with hr|hr
   ·have:=h4 r hr;omega
   ·have:=p.owner r hr;omega
theorem asc(x:Net)(h1:x.ai.length<=1048576)(h2:x.aB.length<=1048576):AE [ii x.n,.l (x.ai.map df),.l (x.aB.map dH)]=some [ii x.n,.l (x.ai.map df),.l (x.aB.map dH)]:=by
 rw[Lu];simp(disch:=omega) only[↓pQ,pS,↓reduceIte,ak,ap,aq,au,av,aw,ax,ay,az,Yi]
theorem FY(i:Nat)(h:i<=1048576):Prim.ev (.app true 1) [.l ((List.replicate i true).map fu),.l ([true].map fu)]=some (.l ((List.replicate (i+1) true).map fu)):=by
 rw[Jv (by simp;omega),<-List.replicate_succ']
theorem aai(i:Nat)(h:i<=1048576):Prim.ev (.app true 1) [.l ((List.replicate i (0:Int)).map aG),.l ([(0:Int)].map aG)]=some (.l ((List.replicate (i+1) (0:Int)).map aG)):=by
 rw[yl (by simp;omega),<-List.replicate_succ']
theorem asd(x:Net)(hx:tq x)(h1:x.ai.length<=1048576)(h2:x.aB.length<=1048576):Xt [ii x.n,.l (x.ai.map df),.l (x.aB.map dH)]=some (iW (Bu x).1++[bb (Bu x).2]):=by
 have dQ:=YD x.n x.ai x.aB h1 h2
 rw[show(⟨x.n,x.ai,x.aB⟩:Net)=x from rfl]at dQ
 have lq:=asc x h1 h2
 unfold Bu
 rw[ao7]
 cases hk:rC x with
 |false=>
  rw[hk]at dQ
  rw[if_neg (by decide)]
  simp(disch:=omega) only[↓pQ,pS,↓reduceIte,ak,ap,aq,au,av,aw,ax,ay,az,L4,L5,kH_,dQ,dI]
  rfl
 |true=>
  rw[hk]at dQ
  rw[if_pos rfl]
  obtain⟨n1,hl,nj,hA,hT⟩:=ul hk
  simp(disch:=omega) only[↓pQ,pS,↓reduceIte,ak,ap,aq,au,av,aw,ax,ay,az,L4,L5,kH_,dQ,lq]
  refine yG (λi=>[ii (i:Int),.l ((List.replicate i true).map fu)]) x.ai.length rfl (ek (by omega)) ?_ ?_
  ·intro i hi q
   have ha:=FY i (by omega)
   simp(disch:=omega) only[↓pQ,pS,↓reduceIte,ak,ap,aq,au,av,aw,ax,ay,az,L4,L5,hi,ha]
  ·intro q
   have hz:¬((x.ai.length:Int)<x.ai.length):=by omega
   simp(disch:=omega) only[↓pQ,pS,↓reduceIte,ak,ap,aq,au,av,aw,ax,ay,az,L4,L5,hz]
   refine yG (λi=>[ii ((i:Int)+1),.l ((List.replicate i true).map fu),.l ((List.replicate i (0:Int)).map aG),.l ((pT x i).map gf),.l ((oq x i).map aC)]) x.n.toNat rfl (ek (by omega)) ?_ ?_
   ·intro i hi s
    have dM:(i:Int)+1<=x.n:=by omega
    have p:=Bv hx hk (k:=i) (by omega)
    have tp:=FX hx hk i (by omega)
    have hn:=arA x ((i:Int)+1) 0 h1 h2
    have ha:=FY i (by omega)
    have hb:=aai i (by omega)
    have hcr:=GX (lC x i).self.store (by have:=p.len;omega) (Mb (by have:=p.Nn;omega))
    have NR:Prim.ev (.app false 8) [.l ((pT x i).map gf),.l ([lC x i].map gf)]=some (.l ((pT x (i+1)).map gf)):=by rw[Nl];exact qW_ (by rw[FW];simp;omega)
    have bq:Prim.ev (.app false 8) [.l ((oq x i).map aC),.l ((lC x i).self.store.map aC)]=some (.l ((oq x (i+1)).map aC)):=by rw[Nm];exact Jz (by have:=p.len;omega)
    rw[show(rK x ((i:Int)+1) 0).1=lC x i from rfl]at hn
    generalize lC x i=y at*
    generalize(rK x ((i:Int)+1) 0).2=z at hn
    have oD:=JC y.self.id y.self.aQ y.self.net.n y.self.net.ai y.self.net.aB y.self.heard y.self.store y.gO
    rw[show(⟨⟨y.self.id,y.self.aQ,⟨y.self.net.n,y.self.net.ai,y.self.net.aB⟩,y.self.heard,y.self.store⟩,y.gO⟩:Node)=y from rfl]at oD
    simp only[gf,List.cons_append,List.nil_append]at hn
    simp(disch:=omega) only[↓pQ,pS,↓reduceIte,ak,ap,aq,au,av,aw,ax,ay,az,L4,L5,dM,hn,ha,hb,oD,NR,hcr,bq]
   ·intro s
    have hz:¬((x.n.toNat:Int)+1<=x.n):=by omega
    simp(disch:=omega) only[↓pQ,pS,↓reduceIte,ak,ap,aq,au,av,aw,ax,ay,az,L4,L5,hz]
    rfl
theorem ase(m:List ah)(r:ah)(hm:m.length<=1048576)(BI:∀y∈m,dX y r=false)(j:Int)(hj:0<=j)(pM:j<=1048576)(k2:af)(hl:r.bd.length<=1048576):
  iter (yz Ay xA (ii j) (.l (m.map aC)) (ii r.ae) (ii r.kind) (ii r.owner) (ii r.key) (ii r.seq) (.l (r.bd.map fk)) (ii r.cost) (bb r.fT) k2) rounds [bb false,ii 0]=k2 [ii (j+1),.l ((m++[r]).map aC)]:=by
 refine yG (λk=>[bb false,ii (k:Int)]) m.length rfl (ek hm) ?_ ?_
 ·intro k lp s
  have hmm:=j_ (l:=m) (n:=(k:Int)) (by omega) lp
  have hs:=L_ (gt m (k:Int)).ae (gt m (k:Int)).kind (gt m (k:Int)).owner (gt m (k:Int)).key (ii (gt m (k:Int)).seq) (.l ((gt m (k:Int)).bd.map fk)) (ii (gt m (k:Int)).cost) (bb (gt m (k:Int)).fT) r.ae r.kind r.owner r.key (ii r.seq) (.l (r.bd.map fk)) (ii r.cost) (bb r.fT)
  rw[apj,BI _ hmm]at hs
  simp(disch:=omega) only[↓pQ,pS,↓reduceIte,ak,ap,aq,au,av,aw,ax,ay,az,yz,yA,AX,AY,lp,hs,dI]
 ·intro s
  have hz:¬((m.length:Int)<m.length):=by omega
  have lq:=Fc r.ae r.kind r.owner r.key r.seq r.bd r.cost r.fT hl
  have h0:Prim.ev (.lit 8 []) []=some (.l []):=rfl
  have h1:Prim.ev (.app false 8) [.l [],.l (m.map aC)]=some (.l (m.map aC)):=kS_ (by omega)
  have h2:=JA r.ae r.kind r.owner r.key r.seq r.bd r.cost r.fT
  have h3:Prim.ev (.app false 8) [.l (m.map aC),.l ([r].map aC)]=some (.l ((m++[r]).map aC)):=Jz (by simp;omega)
  rw[show(⟨r.ae,r.kind,r.owner,r.key,r.seq,r.bd,r.cost,r.fT⟩:ah)=r from rfl]at h2
  simp(disch:=omega) only[↓pQ,pS,↓reduceIte,ak,ap,aq,au,av,aw,ax,ay,az,yz,yA,AX,AY,hz,h0,h1,lq,h2,h3,dI]
theorem asf{s:List ah}(h:iT s){j:Nat}(hj:j<s.length):∀y∈s.take j,dX y s[j]=false:=by
 intro y hy
 obtain⟨i,hi,e⟩:=List.mem_iff_getElem.1 hy
 rw[List.length_take]at hi
 rw[List.getElem_take]at e
 have:=List.pairwise_iff_getElem.1 h i j (by omega) hj (by omega)
 rw[e]at this
 cases hs:dX y s[j]with
 |false=>rfl
 |true=>
  rw[sameKey_iff]at hs
  rw[oL]at this
  omega
theorem asg(x:Net)(i:Nat)(hx:tq x)(hN:rC x=true)(hi:i<6)(u b n:T)(k1:af)(out:Option (List T))(hk:k1 [ii ((i:Int)+1+1),u,b,n,.l ((oq x (i+1)).map aC)]=out):
  iter (yA rounds Ay xA (ii ((i:Int)+1)) u b n (.l ((lC x i).self.store.map aC)) k1) rounds [ii 0,.l ((oq x i).map aC)]=out:=by
 have p:=Bv hx hN (k:=i) (by omega)
 have tp:=FX hx hN i (by omega)
 have aaj:bI (lC x i).self.store:=Mb (by have:=p.Nn;omega)
 have hs:=p.sorted
 have ho:=p.owner
 have hlen:=p.len
 have hT:=Nm x i
 generalize(lC x i).self.store=s at*
 refine yG (λj=>[ii (j:Int),.l ((oq x i++s.take j).map aC)]) s.length (by simp) (ek (by omega)) ?_ ?_
 ·intro j hj q
  have pM:j<s.length:=by omega
  have hg:gt s (j:Int)=s[j]:=eS pM
  have hm:=List.getElem_mem pM
  have bu:=ho _ hm
  have hL:(oq x i++s.take j).length<=1048576:=by rw[List.length_append,List.length_take];omega
  have BI:∀y∈oq x i++s.take j,dX y s[j]=false:=by
   intro y hy
   rcases List.mem_append.1 hy with hy|hy
   ·have h5:=tp.2.2.2 y hy
    cases hk:dX y s[j]with
    |false=>rfl
    |true=>rw[sameKey_iff]at hk;omega
   ·exact asf hs pM y hy
  have ht:(oq x i++s.take j)++[s[j]]=oq x i++s.take (j+1):=by rw[List.append_assoc,List.take_succ_eq_append_getElem pM]
  have kV:=λk2=>ase (oq x i++s.take j) s[j] hL BI (j:Int) (by omega) (by omega) k2 (aaj _ hm)
  rw[ht]at kV
  rw[<-hg]at kV bu
  rw[bu]at kV
  have dj:¬((gt s (j:Int)).owner≠(i:Int)+1):=by omega
  simp(disch:=omega) only[↓pQ,pS,↓reduceIte,ak,ap,aq,au,av,aw,ax,ay,az,yz,yA,AX,AY,hj,bu,kV]
 ·intro q
  have hz:¬((s.length:Int)<s.length):=by omega
  rw[List.take_of_length_le (Nat.le_refl _),<-hT]
  simp(disch:=omega) only[↓pQ,pS,↓reduceIte,ak,ap,aq,au,av,aw,ax,ay,az,yz,yA,AX,AY,hz]
  exact hk
theorem ash(x:Net)(hx:tq x)(h1:x.ai.length<=1048576)(h2:x.aB.length<=1048576):VC [ii x.n,.l (x.ai.map df),.l (x.aB.map dH)]=some (iW (Bu x).1++[bb (Bu x).2]):=by
 have dQ:=YC x.n x.ai x.aB h1 h2
 rw[show(⟨x.n,x.ai,x.aB⟩:Net)=x from rfl]at dQ
 have c1:Prim.ev (.lit 4 []) []=some (.l []):=rfl
 have c2:Prim.ev (.app true 4) [.l [],.l (x.ai.map df)]=some (.l (x.ai.map df)):=kV_ (by omega)
 have c3:Prim.ev (.app true 4) [.l [],.l (x.aB.map dH)]=some (.l (x.aB.map dH)):=j9_ (by omega)
 unfold Bu
 rw[anI]
 cases hk:rC x with
 |false=>
  rw[hk]at dQ
  rw[if_neg (by decide)]
  simp(disch:=omega) only[↓pQ,pS,↓reduceIte,ak,ap,aq,au,av,aw,ax,ay,az,yz,yA,AX,AY,kM_,dQ,dI]
  rfl
 |true=>
  rw[hk]at dQ
  rw[if_pos rfl]
  obtain⟨n1,hl,nj,hA,hT⟩:=ul hk
  simp(disch:=omega) only[↓pQ,pS,↓reduceIte,ak,ap,aq,au,av,aw,ax,ay,az,yz,yA,AX,AY,kM_,dQ,c1,c2,c3]
  refine yG (λi=>[ii (i:Int),.l ((List.replicate i true).map fu)]) x.ai.length rfl (ek (by omega)) ?_ ?_
  ·intro i hi q
   have ha:=FY i (by omega)
   simp(disch:=omega) only[↓pQ,pS,↓reduceIte,ak,ap,aq,au,av,aw,ax,ay,az,yz,yA,AX,AY,hi,ha]
  ·intro q
   have hz:¬((x.ai.length:Int)<x.ai.length):=by omega
   simp(disch:=omega) only[↓pQ,pS,↓reduceIte,ak,ap,aq,au,av,aw,ax,ay,az,yz,yA,AX,AY,hz]
   refine yG (λi=>[ii ((i:Int)+1),.l ((List.replicate i true).map fu),.l ((List.replicate i (0:Int)).map aG),.l ((pT x i).map gf),.l ((oq x i).map aC)]) x.n.toNat rfl (ek (by omega)) ?_ ?_
   ·intro i hi s
    have dM:(i:Int)+1<=x.n:=by omega
    have p:=Bv hx hk (k:=i) (by omega)
    have hn:=arB x ((i:Int)+1) 0 h1 h2
    have ha:=FY i (by omega)
    have hb:=aai i (by omega)
    obtain⟨_,_,_,⟨j1,_⟩,⟨j2,_⟩,⟨j3,_⟩,⟨j4,_⟩,⟨j5,_⟩⟩:=p.ok
    have pb:=p.qL
    unfold Ar at pb
    have b1:=D_ (f:=tY) (lC x i).self.net.ai
    have b2:=D_ (f:=tZ) (lC x i).self.net.aB
    have b3:=D_ (f:=vg) (lC x i).self.heard
    have b4:=D_ (f:=nz) (lC x i).self.store
    have b5:=D_ (f:=xw) (lC x i).gO
    have lq:=ar' (lC x i).self (lC x i).gO (by omega) (by omega) (by omega) (by omega) (Mb (by omega)) (by omega)
    have NR:Prim.ev (.app false 8) [.l ((pT x i).map gf),.l ([lC x i].map gf)]=some (.l ((pT x (i+1)).map gf)):=by rw[Nl];exact qW_ (by rw[FW];simp;omega)
    have hL:=FW x (i+1)
    have C2:gt (pT x (i+1)) (i:Int)=lC x i:=by rw[eS (by omega)];simp[pT]
    have jd:(i:Int)+1-1=i:=by omega
    have BQ:(i:Int)<(pT x (i+1)).length:=by omega
    have cf:Prim.ev (.cell 8 6) [.l ((pT x (i+1)).map gf),ii (i:Int)]=some (.l ((lC x i).self.store.map aC)):=by rw[Tl (by omega) BQ,C2]
    have vS:=Jp (enc:=gf) (l:=pT x (i+1)) (n:=(i:Int)) (by omega) BQ
    have qF:=λu b n k1 out lp=>asg x i hx hk (by omega) u b n k1 out lp
    rw[show(rK x ((i:Int)+1) 0).1=lC x i from rfl]at hn
    generalize(rK x ((i:Int)+1) 0).2=z at hn
    generalize lC x i=y at hn lq NR cf qF
    have oD:=JC y.self.id y.self.aQ y.self.net.n y.self.net.ai y.self.net.aB y.self.heard y.self.store y.gO
    rw[show(⟨⟨y.self.id,y.self.aQ,⟨y.self.net.n,y.self.net.ai,y.self.net.aB⟩,y.self.heard,y.self.store⟩,y.gO⟩:Node)=y from rfl]at oD
    simp only[gf,List.cons_append,List.nil_append]at hn
    simp(disch:=omega) only[↓pQ,pS,↓reduceIte,ak,ap,aq,au,av,aw,ax,ay,az,yz,yA,AX,AY,dM,hn,ha,hb,lq,oD,NR,jd,vS,cf]
    refine qF _ _ _ _ _ ?_
    rfl
   ·intro s
    have hz:¬((x.n.toNat:Int)+1<=x.n):=by omega
    simp(disch:=omega) only[↓pQ,pS,↓reduceIte,ak,ap,aq,au,av,aw,ax,ay,az,yz,yA,AX,AY,hz]
    rfl
theorem xW{S:Nat->af}{R:Nat}{K:List af}{ρ:List T}{k:PL}{v:Value}:PL.den S R K ρ (.join k (.go 0 [.k v]))=PL.den S R K (ρ++[T.c v]) k:=rfl
theorem jC{S:Nat->af}{out:Option (List T)}{K:List af}(es:List Ty)(w c s p n:Nat){rest:PL}{ρ:List T}{xs:List (List T)}(hF:NX S es.length es 0 (tb es w 0))(hl:es.length<=64)(hm:lJ es=true)
  (hp:ρ.length=p)(hs:s<p)(ht:ρ.getD s T.cC=.l xs)(hc:Lf.ev ρ (.a c)=.c (.int .i64 (n:Int)))(hw:∀r∈xs,dG es r)(hb:iP xs<=1048576)(hn:n+64*iP xs<=1099511627776)
  (hk:∀f:af,PL.den S rounds (f::K) (ρ++[T.c (.int .i64 ((dD (dy es) n xs).1:Int)),T.c (.int .i64 (xs.length:Int)),.l (dD (dy es) n xs).2,T.c (.int .i64 (xs.length:Int)),T.c (.bool false)]) rest=out):
  PL.den S rounds K ρ (NW (tb es w 0) [] (.a c) s p λ_ _ _=>rest)=out:=ae5 hF hl hm hp hs ht hc hw hb hn hk
theorem Cg(es:List Ty)(hm:lJ es=true)(hl:es.length<=63){xs:List (List T)}(hw:∀r∈xs,dG es r)(n:Nat):n<=(dD (dy es) n xs).1∧(dD (dy es) n xs).1<=n+64*iP xs:=
 DX (g:=dy es) (xs:=xs) (λm r hr=>by
  have:=xn es m r hm (hw r hr)
  omega) n
theorem Hf{F:af}{es:List Ty}(hF:yk F [.sl es])(n:Nat){xs:List (List T)}(hl:xs.length<=maxLen)(hw:∀r∈xs,dG es r)(hb:iP xs<=1048576)(hn:n<=1000000000):
  F [.l (dD (dy es) n xs).2,.c (.int .i64 (n:Int))]=some [.c (.int .i64 ((dD (dy es) n xs).1:Int))]:=by
 have hbb:kt [T.l xs]<=1048576:=by rw[fQ,gL,gG];omega
 have e:=hF n [.l xs] (afa hl hw) hbb (by omega)
 rw[Ag,Gv,Ah]at e
 exact e
theorem aak{x:Net}(hx:tq x)(hN:rC x=true):∀i:Nat,i<=6->bz Ar (pT x i)<=2001*i∧∀y∈pT x i,Ek y
 |0,_=>⟨by simp[pT,bz],by simp[pT]⟩
 |i+1,h=>by
  obtain⟨h1,h2⟩:=aak hx hN i (by omega)
  have p:=Bv hx hN (k:=i) (by omega)
  have ba:∀a b:List Node,bz Ar (a++b)=bz Ar a+bz Ar b:=by
   intro a b
   induction a with
   |nil=>simp[bz]
   |cons c a ih=>simp only[List.cons_append,bz,ih];omega
  rw[Nl]
  refine⟨by rw[ba];have:=p.qL;simp only[bz];omega,λy hy=>?_⟩
  rcases List.mem_append.1 hy with hy|hy
  ·exact h2 y hy
  ·rw[List.mem_singleton.1 hy];exact p.ok
theorem asi{x:Net}(hx:tq x):Tu (Bu x).1∧As (Bu x).1<=1048576:=by
 unfold Bu
 split
 ·rename_i hN
  obtain⟨n1,hl,nj,hA,hT⟩:=ul hN
  obtain⟨h1,h2⟩:=aak hx hN x.n.toNat (by omega)
  obtain⟨h3,h4,h5,h6⟩:=FX hx hN x.n.toNat (by omega)
  obtain⟨i3,l1,l2⟩:=hx
  refine⟨⟨i3,l1,l2,⟨by rw[List.length_replicate];unfold maxLen;omega,λ_ _=>trivial⟩,⟨by rw[List.length_replicate];unfold maxLen;omega,λ_ _=>trivial⟩,⟨by rw[List.length_replicate];unfold maxLen;omega,λy hy=>by rw[(List.mem_replicate.1 hy).2];exact(show fE (0:Int) from fE.mk (by decide) (by decide))⟩,⟨by rw[FW];unfold maxLen;omega,h2⟩,⟨by simp,by simp⟩,⟨by unfold maxLen;show(oq x x.n.toNat).length<=_;omega,h5⟩,(show fE (0:Int) from fE.mk (by decide) (by decide))⟩,?_⟩
  unfold As
  have b1:bz tY x.ai=x.ai.length:=He (λ_=>rfl) _
  have b2:bz tZ x.aB=x.aB.length:=He (λ_=>rfl) _
  have b3:∀l:List Bool,bz Jt l=l.length:=He λ_=>rfl
  have b4:∀l:List Int,bz vg l=l.length:=He λ_=>rfl
  show bz tY x.ai+bz tZ x.aB+bz Jt (List.replicate _ true)+bz Jt (List.replicate _ true)+bz vg (List.replicate _ 0)+bz Ar (pT x x.n.toNat)+bz El []+bz nz (oq x x.n.toNat)<=_
  rw[b1,b2,b3,b3,b4]
  simp only[List.length_replicate,bz]
  omega
 ·exact⟨⟨fE.mk (by decide) (by decide),⟨by simp,by simp⟩,⟨by simp,by simp⟩,⟨by simp,by simp⟩,⟨by simp,by simp⟩,⟨by simp,by simp⟩,⟨by simp,by simp⟩,⟨by simp,by simp⟩,⟨by simp,by simp⟩,fE.mk (by decide) (by decide)⟩,by decide⟩
def aal:List Ty:=S5
set_option maxRecDepth 100000 in
set_option maxHeartbeats 4000000 in
theorem asj(ts:List T)(h:dG aal ts):N3 ts=some [.c (.bool true)]:=by
 obtain⟨x,rfl,hx⟩:=agL ts h
 have Np:GJ 43=JL:=rfl
 have OJ:GJ 44=VC:=rfl
 have OK:GJ 45=Av:=rfl
 have OL:GJ 46=Xt:=rfl
 have OM:GJ 47=AS:=rfl
 have B3:GJ 48=EM:=rfl
 have ON:GJ 51=XQ:=rfl
 obtain⟨n,e1,b1,c1⟩:=alI _ 1048576 h (by omega) (by omega)
 rw[Jw]at c1
 simp only[gd,List.cons_append,List.nil_append]at e1⊢
 by_cases q:n<0
 ·simp(implicitDefEqProofs:=false) only[N3,dV,Q,Qa,Qb,Qe,Qi,Ql,Qn,Qt,Qu,Qz,I,pb,ia,Np,e1,q]
 have c2:=c1 (by omega)
 have hb:Eh x<=1048576:=by omega
 have e2:=alN _ h (by rw[Jw];exact hb)
 have e3:=Ku _ h (by rw[Jw];exact hb)
 simp only[gd,List.cons_append,List.nil_append]at e2 e3
 unfold Eh at hb
 have h1:=D_ (f:=tY) x.ai
 have h2:=D_ (f:=tZ) x.aB
 have a1:=asd x hx (by omega) (by omega)
 have a2:=ash x hx (by omega) (by omega)
 obtain⟨oW,bW⟩:=asi hx
 generalize(Bu x).1=y at a1 a2 oW bW
 generalize(Bu x).2=z at a1 a2
 have e4:=al9 _ (ai6 y oW) (by rw[Go.Proofs.YtjimmglpkndemaaGreatC.JD];exact bW)
 simp only[iW,List.cons_append,List.nil_append]at a1 a2 e4
 obtain⟨_,⟨_,o1⟩,⟨_,o2⟩⟩:=hx
 obtain⟨_,⟨j1,p1⟩,⟨j2,p2⟩,⟨j3,p3⟩,⟨j4,p4⟩,⟨j5,p5⟩,⟨j6,p6⟩,⟨j7,p7⟩,⟨j8,p8⟩,_⟩:=oW
 have w1:=n8 Ef o1
 have k1:=ny Ao x.ai
 have w2:=n8 Eg o2
 have k2:=ny Aq x.aB
 have v1:=n8 Ef p1
 have t1:=ny Ao y.net.ai
 have v2:=n8 Eg p2
 have t2:=ny Aq y.net.aB
 have v3:=n8 Ed p3
 have t3:=ny Ju y.ai
 have v4:=n8 Ed p4
 have t4:=ny Ju y.up
 have v5:=n8 Eb p5
 have t5:=ny Ec y.lW
 have v6:=n8 Tj p6
 have t6:=ny Tk y.nodes
 have v7:=n8 Tp p7
 have t7:=ny Tq y.jh
 have v8:=n8 Ei p8
 have t8:=ny Ej y.told
 unfold As at bW
 obtain⟨n1,qn1⟩:∃zz,zz=(dD (dy qb) 1 (x.ai.map df)).1:=⟨_,rfl⟩
 have mn1:=Cg qb rfl (by decide) w1 1
 rw[<-qn1,k1]at mn1
 obtain⟨n2,qn2⟩:∃zz,zz=(dD (dy qw) n1 (x.aB.map dH)).1:=⟨_,rfl⟩
 have mn2:=Cg qw rfl (by decide) w2 n1
 rw[<-qn2,k2]at mn2
 obtain⟨r1,qr1⟩:∃zz,zz=(dD (dy qb) 1 (y.net.ai.map df)).1:=⟨_,rfl⟩
 have mr1:=Cg qb rfl (by decide) v1 1
 rw[<-qr1,t1]at mr1
 obtain⟨r2,qr2⟩:∃zz,zz=(dD (dy qw) r1 (y.net.aB.map dH)).1:=⟨_,rfl⟩
 have mr2:=Cg qw rfl (by decide) v2 r1
 rw[<-qr2,t2]at mr2
 obtain⟨r3,qr3⟩:∃zz,zz=(dD (dy ri) r2 (y.ai.map fu)).1:=⟨_,rfl⟩
 have mr3:=Cg ri rfl (by decide) v3 r2
 rw[<-qr3,t3]at mr3
 obtain⟨r4,qr4⟩:∃zz,zz=(dD (dy ri) r3 (y.up.map fu)).1:=⟨_,rfl⟩
 have mr4:=Cg ri rfl (by decide) v4 r3
 rw[<-qr4,t4]at mr4
 obtain⟨r5,qr5⟩:∃zz,zz=(dD (dy oG) r4 (y.lW.map aG)).1:=⟨_,rfl⟩
 have mr5:=Cg oG rfl (by decide) v5 r4
 rw[<-qr5,t5]at mr5
 obtain⟨r6,qr6⟩:∃zz,zz=(dD (dy qc) r5 (y.nodes.map gf)).1:=⟨_,rfl⟩
 have mr6:=Cg qc rfl (by decide) v6 r5
 rw[<-qr6,t6]at mr6
 obtain⟨r7,qr7⟩:∃zz,zz=(dD (dy BV) r6 (y.jh.map jE)).1:=⟨_,rfl⟩
 have mr7:=Cg BV rfl (by decide) v7 r6
 rw[<-qr7,t7]at mr7
 obtain⟨r8,qr8⟩:∃zz,zz=(dD (dy oH) r7 (y.told.map aC)).1:=⟨_,rfl⟩
 have mr8:=Cg oH rfl (by decide) v8 r7
 rw[<-qr8,t8]at mr8
 have pK:=Hf (es:=qb) XS 1 (by rw[List.length_map];exact j1) v1 (by rw[t1];omega) (by omega)
 rw[<-qr1]at pK
 have h12:=Hf (es:=qw) XU r1 (by rw[List.length_map];exact j2) v2 (by rw[t2];omega) (by omega)
 rw[<-qr2]at h12
 have h13:=Hf (es:=ri) XV r2 (by rw[List.length_map];exact j3) v3 (by rw[t3];omega) (by omega)
 rw[<-qr3]at h13
 have h14:=Hf (es:=ri) XV r3 (by rw[List.length_map];exact j4) v4 (by rw[t4];omega) (by omega)
 rw[<-qr4]at h14
 have h15:=Hf (es:=oG) Kx r4 (by rw[List.length_map];exact j5) v5 (by rw[t5];omega) (by omega)
 rw[<-qr5]at h15
 have h16:=Hf (es:=qc) amd r5 (by rw[List.length_map];exact j6) v6 (by rw[t6];omega) (by omega)
 rw[<-qr6]at h16
 have h17:=Hf (es:=BV) ame r6 (by rw[List.length_map];exact j7) v7 (by rw[t7];omega) (by omega)
 rw[<-qr7]at h17
 have h18:=Hf (es:=oH) kP_ r7 (by rw[List.length_map];exact j8) v8 (by rw[t8];omega) (by omega)
 rw[<-qr8]at h18
 have z11:¬((r1:Int)<0):=by omega
 have z12:¬((r2:Int)<0):=by omega
 have z13:¬((r3:Int)<0):=by omega
 have z14:¬((r4:Int)<0):=by omega
 have z15:¬((r5:Int)<0):=by omega
 have z16:¬((r6:Int)<0):=by omega
 have z17:¬((r7:Int)<0):=by omega
 have z18:¬((r8:Int)<0):=by omega
 have z1:¬((n2:Int)<0):=by omega
 have z2:¬((r8:Int)<0):=by omega
 have eN:AU [ii y.net.n,.l (dD (dy qb) 1 (y.net.ai.map df)).2,.l (dD (dy qw) r1 (y.net.aB.map dH)).2,.c (.int .i64 1)]=some [.c (.int .i64 (r2:Int))]:=by
  have u1:Kk 210=N0:=rfl
  have u2:Kk 211=XH:=rfl
  have pK:N0 [.l (dD (dy qb) 1 (y.net.ai.map df)).2,.c (.int .i64 1)]=some [.c (.int .i64 (r1:Int))]:=pK
  simp(implicitDefEqProofs:=false) only[AU,nE,pb,ia,u1,u2,pK,h12,z11,z12]
 have e6:XQ [ii y.net.n,.l (dD (dy qb) 1 (y.net.ai.map df)).2,.l (dD (dy qw) r1 (y.net.aB.map dH)).2,.l (dD (dy ri) r2 (y.ai.map fu)).2,.l (dD (dy ri) r3 (y.up.map fu)).2,.l (dD (dy oG) r4 (y.lW.map aG)).2,.l (dD (dy qc) r5 (y.nodes.map gf)).2,.l (dD (dy BV) r6 (y.jh.map jE)).2,.l (dD (dy oH) r7 (y.told.map aC)).2,ii y.errors,.c (.int .i64 1)]=some [.c (.int .i64 (r8:Int))]:=by
  have u38:Kq 38=jF_:=rfl
  have asn:Kq 122=N1:=rfl
  have aso:Kq 123=N2:=rfl
  have asp:Kq 145=AU:=rfl
  have asq:Kq 146=k5_:=rfl
  have asr:Kq 147=k8_:=rfl
  simp(implicitDefEqProofs:=false) only[XQ,kZ,pb,ia,u38,asn,aso,asp,asq,asr,eN,h13,h14,h15,h16,h17,h18,z12,z13,z14,z15,z16,z17,z18]
 cases z with
 |false=>
  simp(implicitDefEqProofs:=false) only[N3,dV,Q,Qa,Qb,Qe,Qi,Ql,Qn,Qt,Qu,Qz,I,pb,ia,xW,Np,OJ,OK,OL,OM,B3,ON,e1,e2,e3,a1,a2,e4,q]
  refine jC qb 4 41 20 42 1 (pP qb 0 rfl 4) (by decide) rfl rfl (by omega) rfl rfl w1 (by omega) (by omega) λf=>?_
  rw[<-qn1]
  refine jC qw 4 42 21 47 n1 (pP qw 0 rfl 4) (by decide) rfl rfl (by omega) rfl rfl w2 (by omega) (by omega) λf=>?_
  rw[<-qn2]
  simp(implicitDefEqProofs:=false) only[pb,ia,xW,Np,OJ,OK,OL,OM,B3,ON,e4,z1]
  refine jC qb 4 56 23 57 1 (pP qb 0 rfl 4) (by decide) rfl rfl (by omega) rfl rfl v1 (by omega) (by omega) λf=>?_
  rw[<-qr1]
  refine jC qw 4 57 24 62 r1 (pP qw 0 rfl 4) (by decide) rfl rfl (by omega) rfl rfl v2 (by omega) (by omega) λf=>?_
  rw[<-qr2]
  refine jC ri 1 62 25 67 r2 (pP ri 0 rfl 1) (by decide) rfl rfl (by omega) rfl rfl v3 (by omega) (by omega) λf=>?_
  rw[<-qr3]
  refine jC ri 1 67 26 72 r3 (pP ri 0 rfl 1) (by decide) rfl rfl (by omega) rfl rfl v4 (by omega) (by omega) λf=>?_
  rw[<-qr4]
  refine jC oG 1 72 27 77 r4 (pP oG 0 rfl 1) (by decide) rfl rfl (by omega) rfl rfl v5 (by omega) (by omega) λf=>?_
  rw[<-qr5]
  refine jC qc 8 77 28 82 r5 (pP qc 0 rfl 8) (by decide) rfl rfl (by omega) rfl rfl v6 (by omega) (by omega) λf=>?_
  rw[<-qr6]
  refine jC BV 6 82 29 87 r6 (pP BV 0 rfl 6) (by decide) rfl rfl (by omega) rfl rfl v7 (by omega) (by omega) λf=>?_
  rw[<-qr7]
  refine jC oH 8 87 30 92 r7 (pP oH 0 rfl 8) (by decide) rfl rfl (by omega) rfl rfl v8 (by omega) (by omega) λf=>?_
  rw[<-qr8]
  simp(implicitDefEqProofs:=false) only[pb,ia,xW,Np,OJ,OK,OL,OM,B3,ON,e2,a1,e4,e6,z2]
 |true=>
  simp(implicitDefEqProofs:=false) only[N3,dV,Q,Qa,Qb,Qe,Qi,Ql,Qn,Qt,Qu,Qz,I,pb,ia,xW,Np,OJ,OK,OL,OM,B3,ON,e1,e2,e3,a1,a2,e4,q]
  refine jC qb 4 41 20 42 1 (pP qb 0 rfl 4) (by decide) rfl rfl (by omega) rfl rfl w1 (by omega) (by omega) λf=>?_
  rw[<-qn1]
  refine jC qw 4 42 21 47 n1 (pP qw 0 rfl 4) (by decide) rfl rfl (by omega) rfl rfl w2 (by omega) (by omega) λf=>?_
  rw[<-qn2]
  simp(implicitDefEqProofs:=false) only[pb,ia,xW,Np,OJ,OK,OL,OM,B3,ON,e4,z1]
  refine jC qb 4 56 23 57 1 (pP qb 0 rfl 4) (by decide) rfl rfl (by omega) rfl rfl v1 (by omega) (by omega) λf=>?_
  rw[<-qr1]
  refine jC qw 4 57 24 62 r1 (pP qw 0 rfl 4) (by decide) rfl rfl (by omega) rfl rfl v2 (by omega) (by omega) λf=>?_
  rw[<-qr2]
  refine jC ri 1 62 25 67 r2 (pP ri 0 rfl 1) (by decide) rfl rfl (by omega) rfl rfl v3 (by omega) (by omega) λf=>?_
  rw[<-qr3]
  refine jC ri 1 67 26 72 r3 (pP ri 0 rfl 1) (by decide) rfl rfl (by omega) rfl rfl v4 (by omega) (by omega) λf=>?_
  rw[<-qr4]
  refine jC oG 1 72 27 77 r4 (pP oG 0 rfl 1) (by decide) rfl rfl (by omega) rfl rfl v5 (by omega) (by omega) λf=>?_
  rw[<-qr5]
  refine jC qc 8 77 28 82 r5 (pP qc 0 rfl 8) (by decide) rfl rfl (by omega) rfl rfl v6 (by omega) (by omega) λf=>?_
  rw[<-qr6]
  refine jC BV 6 82 29 87 r6 (pP BV 0 rfl 6) (by decide) rfl rfl (by omega) rfl rfl v7 (by omega) (by omega) λf=>?_
  rw[<-qr7]
  refine jC oH 8 87 30 92 r7 (pP oH 0 rfl 8) (by decide) rfl rfl (by omega) rfl rfl v8 (by omega) (by omega) λf=>?_
  rw[<-qr8]
  simp(implicitDefEqProofs:=false) only[pb,ia,xW,Np,OJ,OK,OL,OM,B3,ON,e2,a1,e4,e6,z2]
end Go.Proofs.YtjimmglpkndemaaGreatC
