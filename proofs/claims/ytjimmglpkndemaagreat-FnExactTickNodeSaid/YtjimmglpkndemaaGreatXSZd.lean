/- What a node renews, by the other program; new nodes. Conditions: none. -/
import Derived.Test.YtjimmglpkndemaaGreatXMX
import Derived.Test.YtjimmglpkndemaaGreatKe
import Derived.Test.YtjimmglpkndemaaGreatXSL
namespace Go.Proofs.YtjimmglpkndemaaGreatC
attribute [local irreducible] jp
open Int renaming reduceLE -> aj, reduceLT -> ak, reduceEq -> ap, reduceGT -> aq, reduceGE -> au, reduceAdd -> av, reduceSub -> aw, reduceMul -> ax, reduceNeg -> ay
set_option linter.unusedVariables false
set_option linter.unusedSimpArgs false
def uA(k:Nat)(c:List ah):Prop:=Fit k c∧∀y∈c,1<=y.seq
theorem uA.put{k:Nat}{c:List ah}(h:uA k c){r:ah}(hr:r.bq.length<=1048576)(hq:1<=r.seq):uA (k+1) (dA c r):=
 ⟨h.1.put hr,λy hy=>by
  rcases B8 hy with rfl|hy
  ·exact hq
  ·exact h.2 y hy⟩
theorem uA.mono{k k':Nat}{c:List ah}(h:uA k c)(hk:k<=k'):uA k' c:=⟨h.1.mono hk,h.2⟩
def Cy(x:Self)(l:List ah):List T:=
 if l.all (λr=>decide (r.seq<=100000))=true∧(f_ same x.store l).length<=150 then ie {x with store:=f_ same x.store l}++[.l (l.map aB)]else ie x++[.l []]
theorem auq(x:Self)(h1:x.net.aF.length<=1048576)(h2:x.net.aN.length<=1048576)(h3:x.heard.length<=1048576)(h4:x.store.length<=1048576)(h5:bm x.store):
  BC [ii x.id,ii x.bf,ii x.net.n,.l (x.net.aF.map dC),.l (x.net.aN.map ef),.l (x.heard.map aD),.l (x.store.map aB)]=some (ie (nv x).1++[.l ((nv x).2.map aB)]):=by
 have hS:=NK x.id x.bf x.net.n x.net.aF x.net.aN x.heard x.store h1 h2 h3 h4 h5
 rw[show(⟨x.id,x.bf,⟨x.net.n,x.net.aF,x.net.aN⟩,x.heard,x.store⟩:Self)=x from rfl]at hS
 have hC:=aum x h1 h2 h3 h4 h5
 simp only[ie]at hC
 cases hk:kK x with
 |false=>
  rw[hk]at hS
  rw[show nv x=(x,[]) from by unfold nv;rw[if_neg (by rw[hk];decide)]]
  rw[aas];simp(disch:=omega) only[↓pq,↓pj,ps,pz,↓reduceIte,aj,ak,ap,aq,au,av,aw,ax,ay,uT,uU,uV,Gm,hS,hC,dS]
  rfl
 |true=>
  rw[hk]at hS
  rw[show nv x=xt x (mH x (qP x.store x.id (fv x))) from by unfold nv;rw[if_pos hk],<-auf hk]
  obtain⟨hN,gS,iK,jg,tM,cm⟩:=pB hk
  obtain⟨n1,hl,ht,hA,hT⟩:=wh hN
  have hW:=at7 x.id x.bf x.net.n x.net.aF x.net.aN x.heard x.store h1 h2 h3 h4 h5 hk
  rw[show(⟨x.id,x.bf,⟨x.net.n,x.net.aF,x.net.aN⟩,x.heard,x.store⟩:Self)=x from rfl]at hW
  have It:=OE (x:=x) (xr x) ht h3
  generalize mH x (xr x)=W at hW It
  have hf:=OA cm h5
  have wK:=hf.len
  have hWl:=It.len
  rw[show some (ie (xt x W).1++[T.l ((xt x W).2.map aB)])=some (Cy x (x.store.foldl (sw x W) (W.foldl (qk x) []))) from by
   unfold xt Cy
   rw[show x.store.foldl (sw x W) (W.foldl (qk x) [])=ql x W from rfl]
   split<;>rfl]
  rw[aas];simp(disch:=omega) only[↓pq,↓pj,ps,pz,↓reduceIte,aj,ak,ap,aq,au,av,aw,ax,ay,uT,uU,uV,Gm,hS,hW]
  refine jc W (λi c=>[.l (c.map aB),ii i]) (qk x) (λc=>some (Cy x (x.store.foldl (sw x W) c))) [] (λi c=>uA i c) rfl (dR (by omega)) ⟨Fit.nil,by simp⟩ ?_ ?_
  ·intro i c hi hc
   have nJ:=It.bq.gt (n:=i) (by omega) hi
   generalize hw:gt W (i:Int)=w at nJ
   refine⟨?_,λq=>?_⟩
   ·unfold qk
    split
    ·exact hc.put nJ (Hl cm iK w).1
    ·exact hc.mono (by omega)
   ·have oK:=hc.1.len
    have hF:=aun x.store w (ii w.seq) (.l (w.bq.map fH)) (ii w.cost) (bb w.gU) h4 h5
    have hq:=abQ (ii x.id) (ii x.net.n) (.l (x.net.aF.map dC)) (.l (x.net.aN.map ef)) (.l (x.heard.map aD)) (.l (x.store.map aB)) x w cm iK
    have hp:=GD c w.ae w.kind w.owner w.key (ss x w) w.bq w.cost w.gU (by omega) hc.1.bq nJ
    have be:=zd x.store w
    unfold qk qj
    unfold nu at hq
    by_cases h0:bG x.store w<0
    ·rw[if_pos h0]at hF hq
     simp(disch:=omega) only[↓pq,↓pj,ps,pz,↓reduceIte,aj,ak,ap,aq,au,av,aw,ax,ay,uT,uU,uV,hi,hw,hF,h0,hq,hp,decide_true,Bool.true_or,dS]
     rfl
    ·have h1:0<=bG x.store w:=by omega
     rw[if_neg h0]at hF hq
     have ph:=aaD (gt x.store (bG x.store w)).ae (gt x.store (bG x.store w)).kind (gt x.store (bG x.store w)).owner (gt x.store (bG x.store w)).key (gt x.store (bG x.store w)).seq (gt x.store (bG x.store w)).bq (gt x.store (bG x.store w)).cost (gt x.store (bG x.store w)).gU w.ae w.kind w.owner w.key w.seq w.bq w.cost w.gU (h5.gt h1 be)
     rw[show(⟨(gt x.store (bG x.store w)).ae,(gt x.store (bG x.store w)).kind,(gt x.store (bG x.store w)).owner,(gt x.store (bG x.store w)).key,(gt x.store (bG x.store w)).seq,(gt x.store (bG x.store w)).bq,(gt x.store (bG x.store w)).cost,(gt x.store (bG x.store w)).gU⟩:ah)=gt x.store (bG x.store w) from rfl,show(⟨w.ae,w.kind,w.owner,w.key,w.seq,w.bq,w.cost,w.gU⟩:ah)=w from rfl]at ph
     simp only[aB,List.cons_append,List.nil_append]at hF
     cases jC:xi (gt x.store (bG x.store w)) w with
     |true=>
      rw[jC]at ph
      simp(disch:=omega) only[↓pq,↓pj,ps,pz,↓reduceIte,aj,ak,ap,aq,au,av,aw,ax,ay,uT,uU,uV,hi,hw,hF,h0,ph,decide_false,Bool.false_or,Bool.not_true,dS]
     |false=>
      rw[jC]at ph
      simp(disch:=omega) only[↓pq,↓pj,ps,pz,↓reduceIte,aj,ak,ap,aq,au,av,aw,ax,ay,uT,uU,uV,hi,hw,hF,h0,ph,hq,hp,decide_false,Bool.false_or,Bool.not_false,dS]
      rfl
  ·intro c q hc
   simp(disch:=omega) only[↓pq,↓pj,ps,pz,↓reduceIte,aj,ak,ap,aq,au,av,aw,ax,ay,uT,uU,uV,]
   refine jc x.store (λi c=>[.l (c.map aB),ii i]) (sw x W) (λl=>some (Cy x l)) c (λi c=>uA (25+i) c) rfl (dR (by omega)) (hc.mono (by omega)) ?_ ?_
   ·intro i c hi hc
    have nJ:=h5.gt (n:=i) (by omega) hi
    have rS:=Cf cm (kO (l:=x.store) (n:=(i:Int)) (by omega) hi)
    generalize hr:gt x.store (i:Int)=r at nJ rS
    refine⟨?_,λq=>?_⟩
    ·unfold sw
     split
     ·exact hc.put (by show(fN r).bq.length<=_;rw[P_];simp) (Hl cm iK r).1
     ·exact hc.mono (by omega)
    ·have oK:=hc.1.len
     have hk:=NP W r.ae r.kind r.owner r.key (ii r.seq) (.l (r.bq.map fH)) (ii r.cost) (bb r.gU) (by omega)
     rw[B5]at hk
     have hold:nu x.store r=r.seq:=by
      obtain⟨j,hj,e⟩:∃j:Nat,j<x.store.length∧bG x.store r=j:=by
       have h0:0<=eF (λy=>dP y r) x.store:=He (hr▸kO (l:=x.store) (n:=(i:Int)) (by omega) hi) (OC r)
       have:=zd x.store r
       exact⟨(bG x.store r).toNat,by unfold bG at *;omega,by unfold bG at *;omega⟩
      have oM:dP (gt x.store (bG x.store r)) r=true:=uc (λy=>dP y r) x.store (by unfold bG at e;omega)
      have hm:=kO (l:=x.store) (n:=bG x.store r) (by omega) (by omega)
      have hmr:r∈x.store:=hr▸kO (l:=x.store) (n:=(i:Int)) (by omega) hi
      have heq:gt x.store (bG x.store r)=r:=by
       generalize gt x.store (bG x.store r)=z at oM hm
       have uz:=B7 cm
       obtain⟨a,ha,rfl⟩:=List.mem_iff_getElem.1 hm
       obtain⟨b,hb,e2⟩:=List.mem_iff_getElem.1 hmr
       rcases Nat.lt_trichotomy a b with kE|kE|kE
       ·have:=List.pairwise_iff_getElem.1 uz a b ha hb kE
        rw[e2]at this
        rw[ut_ this]at oM;cases oM
       ·subst kE;exact e2
       ·have:=List.pairwise_iff_getElem.1 uz b a hb ha kE
        rw[e2]at this
        have h9:=Dk oM
        rw[ut_ this]at h9;cases h9
      unfold nu
      rw[if_neg (by omega),heq]
     have hq:=abQ (ii x.id) (ii x.net.n) (.l (x.net.aF.map dC)) (.l (x.net.aN.map ef)) (.l (x.heard.map aD)) (.l (x.store.map aB)) x r cm iK
     rw[hold]at hq
     have lU:=Gx r.ae r.kind r.owner r.key r.seq r.bq r.cost r.gU nJ
     have hg:=aui r (auj rS)
     have ph:=aaD (fN r).ae (fN r).kind (fN r).owner (fN r).key (fN r).seq (fN r).bq (fN r).cost (fN r).gU r.ae r.kind r.owner r.key r.seq r.bq r.cost r.gU (by rw[P_];simp)
     have hp:=GD c (fN r).ae (fN r).kind (fN r).owner (fN r).key (ss x r) (fN r).bq (fN r).cost (fN r).gU (by omega) hc.1.bq (by rw[P_];simp)
     rw[show(⟨(fN r).ae,(fN r).kind,(fN r).owner,(fN r).key,(fN r).seq,(fN r).bq,(fN r).cost,(fN r).gU⟩:ah)=fN r from rfl,show(⟨r.ae,r.kind,r.owner,r.key,r.seq,r.bq,r.cost,r.gU⟩:ah)=r from rfl]at ph
     unfold sw su
     simp only[aB]at hg
     by_cases h0:r.owner=x.id
     ·rw[h0]at hk hg ph lU
      by_cases h1:bG W r<0
      ·have h2:¬bG W r>=0:=by omega
       cases jC:xi (fN r) r with
       |true=>
        rw[jC]at ph
        simp(disch:=omega) only[↓pq,↓pj,ps,pz,↓reduceIte,aj,ak,ap,aq,au,av,aw,ax,ay,uT,uU,uV,hi,hr,h0,hk,h1,h2,lU,hg,ph,Bool.not_true,Bool.and_false,dS]
       |false=>
        rw[jC]at ph
        simp(disch:=omega) only[↓pq,↓pj,ps,pz,↓reduceIte,aj,ak,ap,aq,au,av,aw,ax,ay,uT,uU,uV,hi,hr,h0,hk,h1,h2,lU,hg,ph,hq,hp,Bool.not_false,Bool.and_true,beq_self_eq_true,decide_true,dS]
        rfl
      ·have h2:bG W r>=0:=by omega
       simp(disch:=omega) only[↓pq,↓pj,ps,pz,↓reduceIte,aj,ak,ap,aq,au,av,aw,ax,ay,uT,uU,uV,hi,hr,h0,hk,h1,h2,decide_false,Bool.false_and,Bool.and_false,dS]
     ·have e0:(r.owner==x.id)=false:=by simpa using h0
      simp(disch:=omega) only[↓pq,↓pj,ps,pz,↓reduceIte,aj,ak,ap,aq,au,av,aw,ax,ay,uT,uU,uV,hi,hr,h0,e0,Bool.false_and,dS]
   ·intro l q ke
    have hll:=ke.1.len
    simp(disch:=omega) only[↓pq,↓pj,ps,pz,↓reduceIte,aj,ak,ap,aq,au,av,aw,ax,ay,uT,uU,uV,]
    have hwz:f_ hY x.store l=f_ same x.store l:=atH (λr hr=>by unfold hY;rw[if_neg (by have:=ke.2 r hr;omega)];rfl) _
    have hwi:=abE x.store l (by omega) h5 ke.1.bq
    rw[hwz]at hwi
    have hpf:Fit 325 (f_ same x.store l):=(Fit.mG (f:=same) (λr hr=>ke.1.bq r hr) hf).mono (by omega)
    unfold Cy
    generalize f_ same x.store l=P at hwi hpf
    have hPl:=hpf.len
    refine(yM l.length (λi=>[.l [],ii i]) (λi=>decide ((gt l (i:Int)).seq<=100000)) (gf:=some (ie x++[.l []])) (iR:=some (if P.length<=150 then ie {x with store:=P}++[.l (l.map aB)]else ie x++[.l []])) rfl (dR (by omega)) ?_ ?_).trans ?_
    ·intro i hi s
     by_cases hq:(gt l (i:Int)).seq<=100000
     ·have sx:¬(gt l (i:Int)).seq>100000:=by omega
      simp(disch:=omega) only[↓pq,↓pj,ps,pz,↓reduceIte,aj,ak,ap,aq,au,av,aw,ax,ay,uT,uU,uV,hi,hq,sx,decide_true]
     ·have sx:(gt l (i:Int)).seq>100000:=by omega
      simp(disch:=omega) only[↓pq,↓pj,ps,pz,↓reduceIte,aj,ak,ap,aq,au,av,aw,ax,ay,uT,uU,uV,hi,hq,sx,hC,decide_false,dS]
      rfl
    ·intro s
     by_cases hq:P.length<=150
     ·have sx:¬(P.length:Int)>150:=by omega
      rw[if_pos hq]
      simp(disch:=omega) only[↓pq,↓pj,ps,pz,↓reduceIte,aj,ak,ap,aq,au,av,aw,ax,ay,uT,uU,uV,hC,hwi,PW P (by omega) hpf.bq,sx,PW l (by omega) ke.1.bq]
      rfl
     ·have sx:(P.length:Int)>150:=by omega
      rw[if_neg hq]
      simp(disch:=omega) only[↓pq,↓pj,ps,pz,↓reduceIte,aj,ak,ap,aq,au,av,aw,ax,ay,uT,uU,uV,hC,hwi,PW P (by omega) hpf.bq,sx]
      rfl
    ·have e:ln l.length (λi=>decide ((gt l (i:Int)).seq<=100000))=l.all λr=>decide (r.seq<=100000):=by
      rw[Bool.eq_iff_iff,bQ,List.all_eq_true]
      constructor
      ·intro h r hr
       obtain⟨i,hi,rfl⟩:=List.mem_iff_getElem.1 hr
       have:=h i hi
       rwa[d_ hi]at this
      ·intro h i hi
       rw[d_ hi]
       exact h _ (List.getElem_mem hi)
     rw[e]
     cases l.all λr=>decide (r.seq<=100000)with
     |false=>rw[if_neg (by decide),if_neg (by rintro⟨h,_⟩;cases h)]
     |true=>
      rw[if_pos rfl]
      by_cases hq:P.length<=150
      ·rw[if_pos hq,if_pos ⟨rfl,hq⟩]
      ·rw[if_neg hq,if_neg λh=>hq h.2]
theorem abV{r:ah}(h:fY r=true):yI r∧r.bq.length<=6:=by
 have h1:=Hf h
 have h2:=abP h
 have h6:=Ow h
 have hn:∀y∈r.bq,E9 y:=by
  intro y hy
  unfold fY at h
  simp only[bk]at h
  have h:=h.2
  split at h
  ·simp only[bk]at h
   have:=PY h.1.1.2 hy
   exact⟨jh.mk (by omega) (by omega),jh.mk (by omega) (by omega)⟩
  ·have:r.bq.length=0:=by
    split at h
    ·simp only[bk,decide_eq_true_eq]at h;omega
    ·split at h
     ·simp only[bk,decide_eq_true_eq]at h;omega
     ·cases h
   rw[List.eq_nil_of_length_eq_zero this]at hy;cases hy
 have hb:(-10<=r.ae∧r.ae<=10)∧(-10<=r.key∧r.key<=10)∧(-10<=r.cost∧r.cost<=60000):=by
  unfold fY at h
  simp only[bk]at h
  have h:=h.2
  split at h
  ·simp only[bk,aW,decide_eq_true_eq]at h;omega
  ·split at h
   ·simp only[bk,aW,decide_eq_true_eq]at h;omega
   ·split at h
    ·simp only[bk,Bool.or_eq_true,aW,decide_eq_true_eq]at h;omega
    ·cases h
 exact⟨⟨jh.mk (by omega) (by omega),jh.mk (by omega) (by omega),jh.mk (by omega) (by omega),jh.mk (by omega) (by omega),jh.mk (by omega) (by omega),⟨by unfold maxLen;omega,hn⟩,jh.mk (by omega) (by omega)⟩,h6⟩
theorem aur{l:List ah}(h:∀r∈l,r.bq.length<=6):eJ zw l<=7*l.length:=by
 induction l with
 |nil=>simp[eJ]
 |cons r l ih=>
  have h1:=h r (.head _)
  have h2:=ih λy hy=>h y (.tail _ hy)
  have h3:∀m:List cu,eJ vS m=m.length:=by
   intro m;induction m with
   |nil=>rfl
   |cons a m ih=>simp only[eJ,ih,vS,List.length_cons];omega
  simp only[eJ,zw,h3,List.length_cons]
  omega
theorem aus{r:ah}(h:fY (gR r)=true){q:Int}(hq:1<=q∧q<=100000):fY {r with seq:=q}=true:=by
 unfold fY at h⊢
 simp only[gR,bk,aW]at h⊢
 exact⟨⟨h.1.1,hq⟩,h.2⟩
theorem aut{r:ah}(h:fY r=true):fY (gR (fN r))=true:=by
 have hk:=Hf h
 unfold fY at h⊢
 unfold fN
 simp only[bk,aW]at h
 by_cases h1:r.kind=1
 ·have h2:=h.2
  rw[if_pos h1]at h2
  simp only[bk,aW,decide_eq_true_eq,Bool.not_eq_true']at h2
  rw[if_pos h1]
  simp only[gR,h1,if_true,bk,aW,decide_eq_true_eq,Bool.not_eq_true']
  exact⟨⟨h.1.1,by omega⟩,⟨⟨⟨h2.1.1.1.1,h2.1.1.1.2⟩,by simp[u0,ln]⟩,h2.1.2⟩,h2.2⟩
 ·have h2:=h.2
  rw[if_neg h1]at h2
  rw[if_neg h1]
  simp only[gR,h1,if_false,bk,aW]
  refine⟨⟨h.1.1,by omega⟩,?_⟩
  by_cases h3:r.kind=2
  ·rw[if_pos h3]at h2⊢
   simp only[bk,aW,decide_eq_true_eq,Bool.not_eq_true']at h2⊢
   exact⟨⟨⟨⟨h2.1.1.1.1,h2.1.1.1.2⟩,rfl⟩,by omega⟩,h2.2⟩
  ·rw[if_neg h3]at h2⊢
   by_cases h4:r.kind=3
   ·rw[if_pos h4]at h2⊢
    simp only[bk,Bool.or_eq_true,aW,decide_eq_true_eq]at h2
    have q1:=h2.1.1.1
    have q2:=h2.1.1.2
    simp[q1,q2,aW]
   ·rw[if_neg h4]at h2;cases h2
theorem auu{x:Self}(h:kK x=true)(S:List ah):∀w∈mH x S,fY (gR w)=true:=by
 obtain⟨hN,gS,iK,jg,tM,cm⟩:=pB h
 obtain⟨n1,hl,ht,hA,hT⟩:=wh hN
 have iB:∀(l s:List ah),(∀r∈s,fY (gR r)=true)->(∀r∈l,fY (gR r)=true)->∀r∈f_ same s l,fY (gR r)=true:=by
  intro l
  induction l with
  |nil=>intro s h1 _;exact h1
  |cons a l ih=>
   intro s h1 h2
   refine ih (dA s (same a)) (λr hr=>?_) λr hr=>h2 r (.tail _ hr)
   rcases B8 hr with e|hr
   ·rw[e];exact h2 a (.head _)
   ·exact h1 r hr
 refine iB _ _ (by simp) λr hr=>?_
 rcases List.mem_append.1 hr with hr|hr
 ·rcases List.mem_append.1 hr with hr|hr
  ·rw[<-(zb hr).1];exact abO h hr
  ·unfold ot at hr
   split at hr
   ·obtain⟨a,ha,hr⟩:=List.mem_flatMap.1 hr
    exact(atF (by omega) (abD ha) hr).1
   ·cases hr
 ·obtain⟨t,jA,rfl⟩:=List.mem_map.1 hr
  have h3:=atK hT (List.mem_filter.1 jA).1
  unfold fY
  simp only[gR,qi,bk,aW]
  refine⟨⟨by omega,by omega⟩,?_⟩
  simp[aW,h3]
theorem abW{x:Self}(h:kK x=true)(S:List ah)(hq:(ql x (mH x S)).all (λr=>decide (r.seq<=100000))=true):∀r∈ql x (mH x S),fY r=true:=by
 obtain⟨hN,gS,iK,jg,tM,cm⟩:=pB h
 have hw:=auu h S
 have key:∀r∈ql x (mH x S),∃b q,fY (gR b)=true∧r={b with seq:=q}:=by
  have h1:∀(l c:List ah),(∀w∈l,fY (gR w)=true)->(∀y∈c,∃b q,fY (gR b)=true∧y={b with seq:=q})->∀y∈l.foldl (qk x) c,∃b q,fY (gR b)=true∧y={b with seq:=q}:=by
   intro l
   induction l with
   |nil=>intro c _ h;exact h
   |cons a l ih=>
    intro c hl hc
    rw[List.foldl_cons]
    refine ih _ (λw hw=>hl w (.tail _ hw)) λy hy=>?_
    unfold qk at hy
    split at hy
    ·rcases B8 hy with rfl|hy
     ·exact⟨a,_,hl a (.head _),rfl⟩
     ·exact hc y hy
    ·exact hc y hy
  have h2:∀(l c:List ah),(∀w∈l,fY w=true)->(∀y∈c,∃b q,fY (gR b)=true∧y={b with seq:=q})->∀y∈l.foldl (sw x (mH x S)) c,∃b q,fY (gR b)=true∧y={b with seq:=q}:=by
   intro l
   induction l with
   |nil=>intro c _ h;exact h
   |cons a l ih=>
    intro c hl hc
    rw[List.foldl_cons]
    refine ih _ (λw hw=>hl w (.tail _ hw)) λy hy=>?_
    unfold sw at hy
    split at hy
    ·rcases B8 hy with rfl|hy
     ·exact⟨fN a,_,aut (hl a (.head _)),rfl⟩
     ·exact hc y hy
    ·exact hc y hy
  exact h2 _ _ (λw hw=>Cf cm hw) (h1 _ _ hw (by simp))
 intro r hr
 have hs:=auo cm iK (mH x S) r hr
 have nM:=List.all_eq_true.1 hq r hr
 rw[decide_eq_true_eq]at nM
 obtain⟨b,q,hb,rfl⟩:=key r hr
 exact aus hb ⟨hs,nM⟩
def uB(r:ah):ah:=⟨r.ae,r.kind,r.owner,r.key,r.seq,[],if r.kind=3 then 1 else 0,false⟩
def xu(s:List ah)(ar:Int):List ah:=(scope s ar).map uB
theorem auv{α β:Type}(f:α->β)(l:List α)(c:List β):l.foldl (λc a=>c++[f a]) c=c++l.map f:=by
 induction l generalizing c with
 |nil=>simp
 |cons a l ih=>rw[List.foldl_cons,ih];simp
theorem auw(a k o y s:Int)(t5 t6 t7:T):Zv [ii a,ii k,ii o,ii y,ii s,t5,t6,t7]=some [ii a,ii k,ii o,ii y,ii s,.l [],ii (if k=3 then 1 else 0),bb false]:=by
 rw[arO]
 by_cases h:k=3
 ·subst h;simp(disch:=omega) only[↓pq,↓pj,ps,pz,↓reduceIte,aj,ak,ap,aq,au,av,aw,ax,ay,Gs]
 ·simp(disch:=omega) only[↓pq,↓pj,ps,pz,↓reduceIte,aj,ak,ap,aq,au,av,aw,ax,ay,Gs,h]
theorem auy(s:List ah)(ar:Int)(h:s.length<=1048576)(hn:bm s):Pu [.l (s.map aB),ii ar]=some [.l ((xu s ar).map aB)]:=by
 have hl:(scope s ar).length<=s.length:=List.length_filter_le _ _
 rw[arQ];simp(disch:=omega) only[↓pq,↓pj,ps,pz,↓reduceIte,aj,ak,ap,aq,au,av,aw,ax,ay,q9_,NC,asj s ar h hn]
 unfold xu
 generalize scope s ar=l at hl
 refine(jc l (λi c=>[.l (c.map aB),ii i,.l (l.map aB)]) (λc r=>c++[uB r]) (λc=>some [T.l (c.map aB)]) [] (λi c=>c.length<=i) rfl (dR (by omega)) (by simp) ?_ ?_).trans (by rw[auv,List.nil_append])
 ·intro i c hi hc
  refine⟨by simp;omega,λq=>?_⟩
  have ml:Prim.ev (.lit 8 [true,true,true,true,true,false,true,true]) [ii (gt l (i:Int)).ae,ii (gt l (i:Int)).kind,ii (gt l (i:Int)).owner,ii (gt l (i:Int)).key,ii (gt l (i:Int)).seq,.l [],ii (if(gt l (i:Int)).kind=3 then 1 else 0),bb false]=some (.l ([uB (gt l (i:Int))].map aB)):=pV (by decide) rfl rfl
  simp(disch:=omega) only[↓pq,↓pj,ps,pz,↓reduceIte,aj,ak,ap,aq,au,av,aw,ax,ay,q9_,hi,auw,ml]
 ·intro c q hc
  simp(disch:=omega) only[↓pq,↓pj,ps,pz,↓reduceIte,aj,ak,ap,aq,au,av,aw,ax,ay,q9_,]
theorem auz(x:Self)(es:List c_)(h1:x.net.aF.length<=1048576)(h2:x.net.aN.length<=1048576)(h3:x.heard.length<=1048576)(h4:x.store.length<=1048576)(h5:bm x.store)(h6:es.length<=1048576):
  Xs [ii x.id,ii x.bf,ii x.net.n,.l (x.net.aF.map dC),.l (x.net.aN.map ef),.l (x.heard.map aD),.l (x.store.map aB),.l (es.map bS)]=some [ii x.id,ii x.bf,ii x.net.n,.l (x.net.aF.map dC),.l (x.net.aN.map ef),.l (x.heard.map aD),.l (x.store.map aB),.l (es.map bS)]:=by
 have hc:=abT x h1 h2 h3 h4 h5
 simp only[ie]at hc
 rw[aqq];simp(disch:=omega) only[↓pq,↓pj,ps,pz,↓reduceIte,aj,ak,ap,aq,au,av,aw,ax,ay,MU,hc]
def iu(e:c_):c_:=⟨e.node,e.ae,if 0>e.left-1 then 0 else e.left-1,e.both&&decide ((if 0>e.left-1 then 0 else e.left-1)>0)⟩
def zL(es:List c_)(a:Int):List Int:=es.foldl (λc f=>if f.ae=a then(if f.left>0 then fu c f.node else c)else c) []
def uC(x:Self)(es:List c_)(e:c_):List bc:=⟨1,x.id,e.node,e.ae,zL es e.ae,[]⟩::if e.both=true then [⟨2,x.id,e.node,e.ae,[],xu x.store e.ae⟩]else []
def qm(n:Node):Node:=⟨(nv {n.self with heard:=lE (n.dD.map iu)}).1,n.dD.map iu⟩
def ri(n:Node):Node×List bc:=if lF n=true then(qm n,(qm n).dD.flatMap (uC (qm n).self (qm n).dD))else(n,[])
theorem auA(c:List Int)(n:Int)(hc:c.Pairwise (· < ·))(hl:c.length<=200)(k:List T->Option (List T)):iter (sU r_ (.l (c.map aD)) (ii n) k) rounds [ii 0]=k [.l ((fu c n).map aD)]:=by
 have hle:=B9 c n
 obtain⟨c1,c2,c3⟩:=NT hc n
 refine Dd (λk=>[ii k]) (dM c n) rfl (dR (by omega)) (λi hi w=>?_) λw=>?_
 ·have fh:(i:Int)<c.length:=by omega
  have cK:gt c (i:Int)<n:=by rw[d_ (by omega)];exact(c3 i (by omega)).2 (by omega)
  simp(disch:=omega) only[↓pq,↓pj,ps,pz,↓reduceIte,aj,ak,ap,aq,au,av,aw,ax,ay,sU,uq,sV,ur,fh,cK]
 ·by_cases be:dM c n<c.length
  ·have fh:((dM c n:Nat):Int)<c.length:=by omega
   have cK:¬(gt c ((dM c n:Nat):Int)<n):=by rw[d_ be];intro tH;have:=(c3 _ be).1 tH;omega
   have iz:=GL hc be
   by_cases jl:n∈c
   ·rw[GK hc jl]
    have oX:=iz.2 jl
    simp(disch:=omega) only[↓pq,↓pj,ps,pz,↓reduceIte,aj,ak,ap,aq,au,av,aw,ax,ay,sU,uq,sV,ur,fh,cK,oX]
   ·rw[Ik hc jl]
    have oX:¬(gt c ((dM c n:Nat):Int)=n):=λe=>jl (iz.1 e)
    simp(disch:=omega) only[↓pq,↓pj,ps,pz,↓reduceIte,aj,ak,ap,aq,au,av,aw,ax,ay,sU,uq,sV,ur,fh,cK,oX,re _ (show(c.take (dM c n)).length<=1048576 by simp;omega)]
    rw[Bn (by simp;omega),dU,yF (by simp;omega),dU,List.append_assoc]
  ·have fh:¬(((dM c n:Nat):Int)<c.length):=by omega
   rw[Ik hc (GM hc be)]
   simp(disch:=omega) only[↓pq,↓pj,ps,pz,↓reduceIte,aj,ak,ap,aq,au,av,aw,ax,ay,sU,uq,sV,ur,fh,re _ (show(c.take (dM c n)).length<=1048576 by simp;omega)]
   rw[Bn (by simp;omega),dU,yF (by simp;omega),dU,List.append_assoc]
theorem abX{x:Self}(h:x.store.length<=1048576)(hn:bm x.store)(hh:x.heard.length<=1048576):(nv x).1.store.length<=1048576∧bm (nv x).1.store∧(nv x).1.net=x.net∧(nv x).1.heard=x.heard∧(nv x).1.id=x.id∧(nv x).1.bf=x.bf:=by
 unfold nv
 by_cases hk:kK x=true
 ·rw[if_pos hk]
  obtain⟨hN,gS,iK,jg,tM,cm⟩:=pB hk
  obtain⟨n1,hl,ht,hA,hT⟩:=wh hN
  unfold xt
  split
  ·rename_i hc
   have hNf:=abU (x:=x) (OE (x:=x) (qP x.store x.id (fv x)) ht hh) (OA cm hn).len
   have f:=Fit.mG (f:=same) (l:=ql x (mH x (qP x.store x.id (fv x)))) (λr hr=>hNf.bq r hr) (OA cm hn)
   exact⟨by have:=hc.2;show(f_ same x.store _).length<=_;omega,f.bq,rfl,rfl,rfl,rfl⟩
  ·exact⟨h,hn,rfl,rfl,rfl,rfl⟩
 ·rw[if_neg hk]
  exact⟨h,hn,rfl,rfl,rfl,rfl⟩
theorem Iu{n:Node}(h:lF n=true):kK n.self=true∧n.dD.length=(pu n.self.net.aF n.self.id n.self.net.n).length∧n.dD.length<=18:=by
 unfold lF zK at h
 simp only[bk,decide_eq_true_eq]at h
 have hN:=wh (pB h.1).1
 have:=NN n.self.net.aF n.self.id n.self.net.n (by omega)
 exact⟨h.1,by omega,by omega⟩
def qQ(es:List c_)(i:Nat):List c_:=(es.take i).map iu++es.drop i
theorem OH(es:List c_)(i:Nat):(qQ es i).length=es.length:=by unfold qQ;simp;omega
theorem abY{es:List c_}{i:Nat}(h:i<es.length):gt (qQ es i) (i:Int)=gt es (i:Int):=by
 rw[d_ (l:=qQ es i) (by rw[OH];exact h),d_ h]
 unfold qQ
 rw[List.getElem_append_right (by simp;omega)]
 simp[Nat.min_eq_left (Nat.le_of_lt h)]
theorem abZ{es:List c_}{i:Nat}(h:i<es.length):(qQ es i).set i (iu (gt es (i:Int)))=qQ es (i+1):=by
 have hl:((es.take i).map iu).length=i:=by rw[List.length_map,List.length_take];omega
 unfold qQ
 rw[d_ h,List.set_append_right _ _ (by omega),hl,Nat.sub_self,List.drop_eq_getElem_cons h,List.set_cons_zero,List.take_add_one,List.getElem?_eq_getElem h]
 simp only[Option.toList,List.map_append,List.map_cons,List.map_nil,List.append_assoc,List.cons_append,List.nil_append]
theorem ab0{n:Node}(h:lF n=true){i:Nat}(hi:i<n.dD.length):0<=(gt n.dD (i:Int)).left∧(gt n.dD (i:Int)).left<=3:=by
 unfold lF zK at h
 simp only[bk,decide_eq_true_eq]at h
 have:=bQ.1 h.2.1.2 i hi
 unfold yU at this
 simp only[bk,aW]at this
 omega
theorem auB(es:List c_)(a:Int){i:Nat}:(zL (es.take i) a).Pairwise (· < ·)∧(zL (es.take i) a).length<=i:=by
 have:∀(l:List c_) (c:List Int) (k:Nat),c.Pairwise (· < ·)->c.length<=k->(l.foldl (λc f=>if f.ae=a then(if f.left>0 then fu c f.node else c)else c) c).Pairwise (· < ·)∧(l.foldl (λc f=>if f.ae=a then(if f.left>0 then fu c f.node else c)else c) c).length<=k+l.length:=by
  intro l
  induction l with
  |nil=>intro c k h1 h2;exact⟨h1,by simpa using h2⟩
  |cons e l ih=>
   intro c k h1 h2
   rw[List.foldl_cons,List.length_cons]
   split
   ·split
    ·have:=ih (fu c e.node) (k+1) (B_ h1 _) (by have:=GP c e.node;omega)
     exact⟨this.1,by omega⟩
    ·have:=ih c k h1 h2
     exact⟨this.1,by omega⟩
   ·have:=ih c k h1 h2
    exact⟨this.1,by omega⟩
 have:=this (es.take i) [] 0 .nil (by simp)
 refine⟨this.1,?_⟩
 unfold zL
 have h2:=this.2
 simp only[List.length_take]at h2
 omega
abbrev u8(n:Int):T:=.c (.int .u8 n)
def auC(n:Int):Prop:=0<=n∧n<=255
def wo{α:Type}(lt:α->α->Bool)(L:List α)(x:α):List α:=L.filter (λy=>lt y x)++[x]++L.filter (λy=>lt x y)
theorem auD{α:Type}{lt:α->α->Bool}(asy:∀a b,lt a b=true->lt b a=false)(L:List α)(x:α):(wo lt L x).length<=L.length+1:=by
 have:∀L:List α,(L.filter (λy=>lt y x)).length+(L.filter (λy=>lt x y)).length<=L.length:=by
  intro L
  induction L with
  |nil=>simp
  |cons y L ih=>
   have:=asy y x
   cases h1:lt y x<;>cases h2:lt x y<;>simp_all<;>omega
 have:=this L
 simp only[wo,List.length_append,List.length_singleton];omega
theorem ab1{α:Type} [Inhabited α]{ok:α->Bool}{lt:α->α->Bool}(tr:∀a b c,lt a b=true->lt b c=true->lt a c=true){L:List α}(h:eo ok lt L=true)(dQ:∀y∈L,ok y=true){x:α}(hx:ok x=true):eo ok lt (wo lt L x)=true:=by
 have hp:=abz tr h
 refine y_ (λy hy=>?_) ?_
 ·simp only[wo,List.mem_append,List.mem_filter,List.mem_singleton]at hy
  rcases hy with(hy|hy)|hy
  ·exact dQ y hy.1
  ·rw[hy];exact hx
  ·exact dQ y hy.1
 ·unfold wo
  rw[List.pairwise_append,List.pairwise_append]
  refine⟨⟨hp.filter _,List.pairwise_singleton _ _,?_⟩,hp.filter _,?_⟩
  ·intro a ha b hb
   rw[List.mem_singleton]at hb
   rw[hb];exact(List.mem_filter.1 ha).2
  ·intro a ha b hb
   have hb:=(List.mem_filter.1 hb).2
   rcases List.mem_append.1 ha with ha|ha
   ·exact tr _ _ _ (List.mem_filter.1 ha).2 hb
   ·rw[List.mem_singleton]at ha
    rw[ha];exact hb
theorem Hm{α:Type} [Inhabited α]{ok:α->Bool}{lt:α->α->Bool}{l:List α}(h:eo ok lt l=true):∀x∈l,ok x=true:=by
 intro x hx
 obtain⟨i,hi,rfl⟩:=List.mem_iff_getElem.1 hx
 have:=bQ.1 h i hi
 simp only[bk]at this
 have h1:=this.1
 rwa[d_ hi]at h1
theorem auE(a b c:bC)(h1:mf a b=true)(h2:mf b c=true):mf a c=true:=by simp only[mf,decide_eq_true_eq]at *;omega
theorem auF(a b:bC)(h1:mf a b=true):mf b a=false:=by simp only[mf,decide_eq_true_eq,decide_eq_false_iff_not]at *;omega
theorem auG(a b c:b_)(h1:sj a b=true)(h2:sj b c=true):sj a c=true:=by simp only[sj,decide_eq_true_eq]at *;omega
def Cz(n:Int)(L:List bC):Prop:=eo (mT n) mf L=true∧L.length<=12
def CA(n:Int)(L:List b_):Prop:=eo (vZ n) sj L=true
theorem Cz.put{n:Int}{L:List bC}(h:Cz n L)(hl:L.length<12){a b c d:Int}(hn:2<=n∧n<=6)(ha:1<=a)(kE:a<b)(hb:b<=n)(hc:1<=c∧c<=1000)(hd:0<=d∧d<=2):Cz n (wo mf L ⟨a,b,c,d⟩):=by
 refine⟨ab1 auE h.1 (Hm h.1) ?_,?_⟩
 ·simp only[mT,gZ,bk,decide_eq_true_eq];omega
 ·have:=auD auF L ⟨a,b,c,d⟩
  omega
theorem CA.put{n:Int}{L:List b_}(h:CA n L){a b c:Int}{d:Bool}(ha:1<=a∧a<=n)(hb:1<=b∧b<=9)(hc:1<=c∧c<=1000):CA n (wo sj L ⟨a,b,c,d⟩):=by
 refine ab1 auG h (Hm h) ?_
 simp only[vZ,gZ,bk,decide_eq_true_eq];omega
theorem Cz.nil{n:Int}:Cz n []:=⟨rfl,by simp⟩
theorem CA.nil{n:Int}:CA n []:=rfl
def sZ(a:Int):Prop:=1<=a∧a<=6
inductive Pa (s:List ah) (ar:Int):Int->Int->Int->Prop
 |nil {a:Int} (h:sZ a):Pa s ar a a 0
 |cons {a u b n:Int} (h:sZ a) (hc:dE s ar a u≠0) (p:Pa s ar u b n):Pa s ar a b (dE s ar a u+n)
theorem Pa.l{s:List ah}{ar a b n:Int}(h:Pa s ar a b n):sZ a:=by cases h<;>assumption
theorem Pa.r{s:List ah}{ar a b n:Int}(h:Pa s ar a b n):sZ b:=by induction h<;>assumption
theorem Pa.nn{s:List ah}(hs:dX s=true){ar a b n:Int}(h:Pa s ar a b n):0<=n∧(n=0->a=b):=by
 induction h with
 |nil=>exact⟨by omega,λ_=>rfl⟩
 | @cons a u b n h hc p ih=>
  have:=Io hs ar a u
  exact⟨by omega,λh=>by omega⟩
theorem Pa.snoc{s:List ah}{ar a u v n:Int}(h:Pa s ar a u n)(hc:dE s ar u v≠0)(hv:sZ v):Pa s ar a v (n+dE s ar u v):=by
 induction h with
 |nil h=>rw[Int.zero_add];have:=Pa.cons h hc (.nil hv);rwa[Int.add_zero]at this
 |cons h tH p ih=>rw[Int.add_assoc];exact .cons h tH (ih hc)
theorem Pa.app{s:List ah}{ar a u v n m:Int}(h:Pa s ar a u n)(h':Pa s ar u v m):Pa s ar a v (n+m):=by
 induction h with
 |nil h=>rwa[Int.zero_add]
 |cons h tH p ih=>rw[Int.add_assoc];exact .cons h tH (ih h')
theorem Pa.last{s:List ah}{ar a v n:Int}(h:Pa s ar a v n):(a=v∧n=0)∨∃p m,Pa s ar a p m∧dE s ar p v≠0∧n=m+dE s ar p v:=by
 induction h with
 |nil h=>exact .inl ⟨rfl,rfl⟩
 | @cons a u b n h hc p ih=>
  right
  rcases ih with⟨rfl,rfl⟩|⟨p',m,h1,h2,h3⟩
  ·exact⟨a,0,.nil h,hc,by omega⟩
  ·exact⟨p',dE s ar a u+m,.cons h hc h1,h2,by omega⟩
def CB(s:List ah)(ar fr a:Int)(W:List Way)(v:Int):Way:=
 if dE s ar a v=0∨v=fr then gt W v
 else if(gt W v).to=0∨(gt W a).cost+dE s ar a v<(gt W v).cost then⟨v,(gt W a).cost+dE s ar a v,if a=fr then [v]else(gt W a).aG⟩
 else if(gt W a).cost+dE s ar a v=(gt W v).cost then lY (gt W v) ⟨v,(gt W a).cost+dE s ar a v,if a=fr then [v]else(gt W a).aG⟩
 else gt W v
theorem auH{s:List ah}(hs:dX s=true)(ar fr:Int){a:Int}(ha:sZ a){W:List Way}(hl7:W.length=7){v:Int}(hv:sZ v):gt (pw s ar fr a W) v=CB s ar fr a W v:=by
 have hl:(List.range 6).length=6:=List.length_range
 have haa:CB s ar fr a W a=gt W a:=by unfold CB;rw[if_pos (.inl (GV hs ar a))]
 have key:=KW (l:=List.range 6) (g:=mF s ar fr a) (c:=W) (Inv:=λi W'=>W'.length=7∧∀u:Int,sZ u->gt W' u=if u<=i then CB s ar fr a W u else gt W u)
  ⟨hl7,λu hu=>by rw[if_neg (by have:=hu.1;omega)]⟩ λi W' hi ⟨h1,h2⟩=>by
  rw[hl]at hi
  rw[d_ (by rw[hl];omega),List.getElem_range]
  have nI:i<6:=by omega
  have ga:gt W' a=gt W a:=by rw[h2 a ha];split<;>simp[haa]
  have gi:gt W' ((i:Int)+1)=gt W ((i:Int)+1):=by rw[h2 _ ⟨by omega,by omega⟩,if_neg (by omega)]
  have hlen:(mF s ar fr a W' i).length=7:=by
   unfold mF
   split
   ·exact h1
   ·split
    ·simp[h1]
    ·split
     ·simp[h1]
     ·exact h1
  refine⟨hlen,λu hu=>?_⟩
  have hu0:0<=u:=by have:=hu.1;omega
  by_cases he:u=(i:Int)+1
  ·subst he
   rw[if_pos (by omega)]
   unfold mF CB
   rw[gi,ga]
   split
   ·rw[gi]
   ·split
    ·rw[sY h1 nI hu0,if_pos rfl]
    ·split
     ·rw[sY h1 nI hu0,if_pos rfl]
     ·rw[gi]
  ·have:gt (mF s ar fr a W' i) u=gt W' u:=by
    unfold mF
    split
    ·rfl
    ·split
     ·rw[sY h1 nI hu0,if_neg he]
     ·split
      ·rw[sY h1 nI hu0,if_neg he]
      ·rfl
   rw[this,h2 u hu]
   exact yL ⟨λh=>by omega,λh=>by omega⟩ _ _
 rw[hl]at key
 have:=key.2 v hv
 rwa[if_pos (show v<=((6:Nat):Int) by have:=hv.2;omega)]at this
structure DI (s:List ah) (ar fr:Int) (W:List Way) (D:List Int):Prop where
 fr0:(gt W fr).to=fr∧(gt W fr).cost=0
 snd:∀v,sZ v->(gt W v).to≠0->Pa s ar fr v (gt W v).cost
 rel:∀p∈D,∀v,sZ v->dE s ar p v≠0->(gt W v).to≠0∧(gt W v).cost<=(gt W p).cost+dE s ar p v
 dV:∀v,sZ v->v≠fr->(gt W v).to≠0->∀h,h∈(gt W v).aG↔∃p∈D,dE s ar p v≠0∧(gt W p).cost+dE s ar p v=(gt W v).cost∧(if p=fr then h=v else h∈(gt W p).aG)
theorem DI.start{s:List ah}{ar fr:Int}(h:sZ fr):DI s ar fr (W0 fr) []:=by
 have g:∀v,sZ v->(gt (W0 fr) v).to≠0->v=fr:=λv hv hn=>by
  have h1:=hv.1
  have h2:=hv.2
  rw[uw h (by omega) (by omega)]at hn
  split at hn
  ·rename_i e;exact e.symm
  ·exact absurd rfl hn
 have g0:gt (W0 fr) fr=⟨fr,0,[]⟩:=by have h1:=h.1;have h2:=h.2;rw[uw h (by omega) (by omega),if_pos rfl]
 refine⟨by rw[g0];exact⟨rfl,rfl⟩,λv hv hn=>?_,by simp,λv hv dk hn=>absurd (g v hv hn) dk⟩
 have:=g v hv hn
 subst this
 rw[g0];exact .nil h
theorem auI{a b:Way}(ha:fI a.aG)(hb:fI b.aG)(he:a.cost=b.cost)(h:Int):h∈(lY a b).aG↔h∈a.aG∨h∈b.aG:=by
 unfold lY
 rw[if_neg (by omega),if_neg (by omega),GI]
 constructor
 ·exactλh=>h.2
 ·exactλh'=>⟨h'.elim (ha.2 h) (hb.2 h),h'⟩
theorem DI.step{s:List ah}(hs:dX s=true){ar fr:Int}{W:List Way}{D:List Int}(hI:ig fr W D)(h:DI s ar fr W D)(hb:dW W D≠0):DI s ar fr (pw s ar fr (dW W D) W) (D++[dW W D]):=by
 obtain⟨h1,h2,h3,h4⟩:=(Cm W D).resolve_left λe=>hb e.1
 generalize ha:dW W D=a at*
 have hl:=hI.ok.len
 have bE:=λv (hv:sZ v)=>auH hs ar fr (a:=a) h1 hl hv
 have ho:∀v,sZ v->fI (gt W v).aG:=λv hv=>hI.ok.aG v (by have:=hv.1;omega) (by have:=hv.2;omega)
 have gJ:∀v,sZ v->fI (if a=fr then [v]else(gt W a).aG):=λv hv=>by
  split
  ·exact Ij hv.1 hv.2
  ·exact ho a h1
 have hD:∀p,p∈D∨p=a->gt (pw s ar fr a W) p=gt W p∧sZ p:=by
  intro p hp
  rcases hp with hp|rfl
  ·have hm:=hI.mem p hp
   refine⟨?_,hm.1⟩
   rw[bE p hm.1]
   unfold CB
   have hmo:=hI.mono p hp a h1.1 h1.2 h3 h2
   have hk:=Io hs ar a p
   by_cases q1:dE s ar a p=0∨p=fr
   ·rw[if_pos q1]
   rw[if_neg q1,if_neg,if_neg]
   ·intro e;have:dE s ar a p≠0:=λe=>q1 (.inl e);omega
   ·rintro(e|e)
    ·exact hm.2 e
    ·omega
  ·refine⟨?_,h1⟩
   rw[bE p h1];unfold CB;rw[if_pos (.inl (GV hs ar p))]
 have hfr:sZ fr:=hI.fr6
 refine⟨?_,λv hv hn=>?_,λp hp v hv hc=>?_,λv hv dk hn x=>?_⟩
 ·rw[bE fr hfr];unfold CB;rw[if_pos (.inr rfl)];exact h.fr0
 ·rw[bE v hv]at hn⊢
  unfold CB at hn⊢
  by_cases q1:dE s ar a v=0∨v=fr
  ·rw[if_pos q1]at hn⊢;exact h.snd v hv hn
  rw[if_neg q1]at hn⊢
  have hpa:=(h.snd a h1 h2).snoc (λe=>q1 (.inl e)) hv
  by_cases q2:(gt W v).to=0∨(gt W a).cost+dE s ar a v<(gt W v).cost
  ·rw[if_pos q2];exact hpa
  rw[if_neg q2]at hn⊢
  by_cases q3:(gt W a).cost+dE s ar a v=(gt W v).cost
  ·rw[if_pos q3]
   rcases yZ (gt W v) ⟨v,(gt W a).cost+dE s ar a v,if a=fr then [v]else(gt W a).aG⟩with e|e
   ·rw[e];exact h.snd v hv λe=>q2 (.inl e)
   ·rw[e];exact hpa
  ·rw[if_neg q3];exact h.snd v hv λe=>q2 (.inl e)
 ·have rR:p∈D∨p=a:=by simpa using hp
  obtain⟨g1,g2⟩:=hD p rR
  rw[g1,bE v hv]
  unfold CB
  by_cases hpa:p=a
  ·rw[hpa]at hc⊢
   by_cases q1:v=fr
   ·subst q1
    rw[if_pos (.inr rfl)]
    have:=Io hs ar a v
    have h5:=hI.ok.cost a (by omega) (by omega)
    have h6:=h.fr0
    have:=hv.1
    refine⟨by omega,by omega⟩
   ·rw[if_neg (λe=>e.elim hc q1)]
    split
    ·exact⟨by show v≠0;have:=hv.1;omega,by show(gt W a).cost+_<=_;omega⟩
    ·rename_i q2
     split
     ·rename_i q3
      have oJ:=(hI.ok.to v (by have:=hv.1;omega) (by have:=hv.2;omega)).resolve_left (λe=>q2 (.inl e))
      rw[v_ oJ rfl]
      refine⟨by have:=hv.1;omega,?_⟩
      rcases yZ (gt W v) ⟨v,(gt W a).cost+dE s ar a v,if a=fr then [v]else(gt W a).aG⟩with e|e
      ·rw[e];omega
      ·rw[e];exact Int.le_refl _
     ·exact⟨λe=>q2 (.inl e),by omega⟩
  ·have hpD:=rR.resolve_right hpa
   obtain⟨k1,k2⟩:=h.rel p hpD v hv hc
   split
   ·exact⟨k1,k2⟩
   ·split
    ·rename_i q2
     have q3:=q2.resolve_left k1
     exact⟨by show v≠0;have:=hv.1;omega,by show(gt W a).cost+_<=_;omega⟩
    ·split
     ·have oJ:=(hI.ok.to v (by have:=hv.1;omega) (by have:=hv.2;omega)).resolve_left k1
      rw[v_ oJ rfl]
      refine⟨by have:=hv.1;omega,?_⟩
      rcases yZ (gt W v) ⟨v,(gt W a).cost+dE s ar a v,if a=fr then [v]else(gt W a).aG⟩with e|e
      ·rw[e];exact k2
      ·rename_i q3;rw[e];show(gt W a).cost+_<=_;omega
     ·exact⟨k1,k2⟩
 ·
  have xA:∀c:Int,(∃p∈D++[a],dE s ar p v≠0∧(gt (pw s ar fr a W) p).cost+dE s ar p v=c∧(if p=fr then x=v else x∈(gt (pw s ar fr a W) p).aG))↔
    ((∃p∈D,dE s ar p v≠0∧(gt W p).cost+dE s ar p v=c∧(if p=fr then x=v else x∈(gt W p).aG))∨(dE s ar a v≠0∧(gt W a).cost+dE s ar a v=c∧x∈(if a=fr then [v]else(gt W a).aG))):=by
   intro c
   have ea:(if a=fr then x=v else x∈(gt W a).aG)↔x∈(if a=fr then [v]else(gt W a).aG):=by
    split<;>simp
   constructor
   ·rintro⟨p,hp,k1,k2,k3⟩
    have rR:p∈D∨p=a:=by simpa using hp
    rw[(hD p rR).1]at k2 k3
    rcases rR with rR|rfl
    ·exact .inl ⟨p,rR,k1,k2,k3⟩
    ·exact .inr ⟨k1,k2,ea.1 k3⟩
   ·rintro(⟨p,hp,k1,k2,k3⟩|⟨k1,k2,k3⟩)
    ·exact⟨p,by simp[hp],k1,by rw[(hD p (.inl hp)).1];exact k2,by rw[(hD p (.inl hp)).1];exact k3⟩
    ·exact⟨a,by simp,k1,by rw[(hD a (.inr rfl)).1];exact k2,by rw[(hD a (.inr rfl)).1];exact ea.2 k3⟩
  rw[bE v hv]at hn⊢
  rw[xA]
  unfold CB at hn⊢
  by_cases q1:dE s ar a v=0
  ·rw[if_pos (.inl q1)]at hn⊢
   rw[h.dV v hv dk hn]
   exact⟨.inl,λk=>k.resolve_right λk=>k.1 q1⟩
  rw[if_neg (λe=>e.elim q1 dk)]at hn⊢
  by_cases q2:(gt W v).to=0∨(gt W a).cost+dE s ar a v<(gt W v).cost
  ·rw[if_pos q2]at hn⊢
   show x∈(if a=fr then [v]else(gt W a).aG)↔_
   constructor
   ·exactλk=>.inr ⟨q1,rfl,k⟩
   ·rintro(⟨p,hp,k1,k2,k3⟩|⟨_,_,k⟩)
    ·obtain⟨k4,k5⟩:=h.rel p hp v hv k1
     rcases q2 with q2|q2
     ·exact absurd q2 k4
     ·have k2:(gt W p).cost+dE s ar p v=(gt W a).cost+dE s ar a v:=k2
      omega
    ·exact k
  rw[if_neg q2]at hn⊢
  have ab3:(gt W v).to≠0:=λe=>q2 (.inl e)
  by_cases q3:(gt W a).cost+dE s ar a v=(gt W v).cost
  ·rw[if_pos q3]
   have Ch:(lY (gt W v) ⟨v,(gt W a).cost+dE s ar a v,if a=fr then [v]else(gt W a).aG⟩).cost=(gt W v).cost:=by
    rcases yZ (gt W v) ⟨v,(gt W a).cost+dE s ar a v,if a=fr then [v]else(gt W a).aG⟩with e|e
    ·exact e
    ·rw[e];exact q3
   rw[Ch,auI (ho v hv) (gJ v hv) q3.symm,h.dV v hv dk ab3]
   constructor
   ·exactλk=>k.imp_right λk=>⟨q1,q3,k⟩
   ·exactλk=>k.imp_right λk=>k.2.2
  ·rw[if_neg q3]
   rw[h.dV v hv dk ab3]
   exact⟨.inl,λk=>k.resolve_right λk=>q3 k.2.1⟩
section
variable {x:Net} {L U:List Bool}
end
theorem auJ(s:List ah)(r:ah):bG s r<s.length:=ub _ _
theorem auK{s:List ah}(h:iG s){a b:ah}(ha:a∈s)(hb:b∈s)(hk:dP a b=true):a=b:=by
 obtain⟨i,hi,e1⟩:=List.mem_iff_getElem.1 ha
 obtain⟨j,hj,e2⟩:=List.mem_iff_getElem.1 hb
 have hp:=List.pairwise_iff_getElem.1 h
 rw[sameKey_iff]at hk
 rcases Nat.lt_trichotomy i j with qM|qM|qM
 ·have:=hp i j hi hj qM
  rw[e1,e2]at this
  rw[pg]at this
  omega
 ·subst qM;rw[<-e1,<-e2]
 ·have:=hp j i hj hi qM
  rw[e1,e2]at this
  rw[pg]at this
  omega
theorem OI{s:List ah}{r:ah}(h:0<=bG s r):gt s (bG s r)∈s∧dP (gt s (bG s r)) r=true:=
 ⟨kO h (auJ s r),uc (λx:ah=>dP x r) s h⟩
theorem auL{s:List ah}{r:ah}(h:bG s r<0):∀x∈s,dP x r=false:=(C4 _ _).1 h
theorem OJ{s:List ah}{r x:ah}(hx:x∈s)(hk:dP x r=true):0<=bG s r:=He hx hk
theorem ab4{s:List ah}(hs:iG s){r x:ah}(hx:x∈s)(hk:dP x r=true):gt s (bG s r)=x:=by
 obtain⟨h1,h2⟩:=OI (OJ hx hk)
 refine auK hs h1 hx ?_
 rw[sameKey_iff]at*
 omega
def Ho(s:List ah)(r:ah):Bool:=fY r&&(if 0<=bG s r then decide ((gt s (bG s r)).seq<r.seq)else decide (s.length<150))
def sy(s:List ah)(r:ah):List ah:=if Ho s r=true then dA s r else s
theorem P'{s:List ah}(h:dX s=true):s.length<=150:=by
 unfold dX at h
 simp only[bk,decide_eq_true_eq]at h
 exact h.1
theorem Hp{s:List ah}(h1:iG s)(h2:∀r∈s,fY r=true)(h3:s.length<=150):dX s=true:=by
 unfold dX
 simp only[bk,decide_eq_true_eq]
 exact⟨h3,y_ h2 h1⟩
theorem ab5{s:List ah}(h:dX s=true):bm s:=λr hr=>by
 have:=Ow (Cf h hr)
 omega
theorem ab6{α:Type}{p q:α->Bool}(hpq:∀a,p a=true->q a=false):∀{l:List α} {x:α},x∈l->p x=false->q x=false->(l.filter p).length+(l.filter q).length+1<=l.length
 |a::l,x,hx,hp,hq=>by
  have gen:∀l:List α,(l.filter p).length+(l.filter q).length<=l.length:=by
   intro l
   induction l with
   |nil=>simp
   |cons a l ih=>
    have:=hpq a
    cases h1:p a<;>cases h2:q a<;>simp_all<;>omega
  rcases List.mem_cons.1 hx with rfl|hx
  ·have:=gen l
   simp only[List.filter_cons,hp,hq,dS,if_false,List.length_cons]
   omega
  ·have ih:=ab6 hpq hx hp hq
   have:=hpq a
   cases h1:p a<;>cases h2:q a<;>simp_all<;>omega
theorem auN{s:List ah}{r:ah}(h:0<=bG s r):(dA s r).length<=s.length:=by
 obtain⟨h1,h2⟩:=OI h
 rw[sameKey_iff]at h2
 have:=ab6 (p:=λx=>eQ x r) (q:=λx=>eQ r x) (λa ha=>by
  rw[<-Bool.not_eq_true]
  intro hb
  rw[pg]at ha hb
  omega) h1 (by rw[<-Bool.not_eq_true,pg];omega) (by rw[<-Bool.not_eq_true,pg];omega)
 unfold dA
 simp only[List.length_append,List.length_singleton]
 omega
theorem auO{s:List ah}(h:dX s=true){r:ah}(hr:fY r=true)(hk:0<=bG s r∨s.length<150):dX (dA s r)=true:=by
 have hl:=P' h
 refine Hp (Ii (B7 h) r) (λx hx=>?_) ?_
 ·rcases B8 hx with rfl|hx
  ·exact hr
  ·exact Cf h hx
 ·rcases hk with hk|hk
  ·have:=auN hk;omega
  ·have:=GA s r;omega
theorem auP{s:List ah}(h:dX s=true)(r:ah):dX (sy s r)=true:=by
 unfold sy
 split
 ·rename_i hi
  unfold Ho at hi
  simp only[bk]at hi
  refine auO h hi.1 ?_
  split at hi
  ·rename_i h0;exact .inl h0
  ·exact .inr (by simpa using hi.2)
 ·exact h
theorem auQ(x:Self)(h1:x.net.aF.length<=1048576)(h2:x.net.aN.length<=1048576)(h3:x.heard.length<=1048576)(h4:x.store.length<=1048576)(h5:bm x.store):
  H3 [ii x.id,ii x.bf,ii x.net.n,.l (x.net.aF.map dC),.l (x.net.aN.map ef),.l (x.heard.map aD),.l (x.store.map aB)]=some [ii x.id,ii x.bf,ii x.net.n,.l (x.net.aF.map dC),.l (x.net.aN.map ef),.l (x.heard.map aD),.l (x.store.map aB)]:=by
 rw[aal];simp(disch:=omega) only[↓pq,↓pj,ps,pz,↓reduceIte,aj,ak,ap,aq,au,av,aw,ax,ay,Gi,PW _ h4 h5]
theorem ab7{x:Self}(h:kK x=true){s:List ah}(hs:dX s=true):kK {x with store:=s}=true:=by
 unfold kK at*
 simp only[bk]at*
 exact⟨h.1,h.2.1,h.2.2.1,h.2.2.2.1,hs⟩
def uD(n:Nat)(s:List ah):Prop:=dX s=true∧s.length<=n∧(∀r∈s,r.seq<=5)∧(s.filter rh).length+(if n<100 then 0 else 119)<=n
theorem uD.ins{n:Nat}{s:List ah}(h:uD n s){r:ah}(hr:r.seq<=5)(hn:n≠99):uD (n+1) (sy s r):=by
 refine⟨auP h.1 r,?_,λx hx=>?_,?_⟩
 ·have:=h.2.1
  unfold sy
  split
  ·have:=GA s r;omega
  ·omega
 ·unfold sy at hx
  split at hx
  ·rcases B8 hx with rfl|hx
   ·exact hr
   ·exact h.2.2.1 x hx
  ·exact h.2.2.1 x hx
 ·have h3:=h.2.2.2
  have h4:=abB s r rh
  have:((sy s r).filter rh).length<=(s.filter rh).length+1:=by
   unfold sy
   split
   ·split at h4<;>omega
   ·omega
  split at h3<;>split<;>omega
theorem uD.nil:uD 0 []:=⟨rfl,by simp,by simp,by simp⟩
theorem uD.mono{n m:Nat}{s:List ah}(h:uD n s)(hm:n<=m)(hk:n+119<=m∨100<=n∨m<100):uD m s:=by
 refine⟨h.1,Nat.le_trans h.2.1 hm,h.2.2.1,?_⟩
 have h3:=h.2.2.2
 have h4:(s.filter rh).length<=n:=Nat.le_trans (List.length_filter_le _ _) h.2.1
 split at h3<;>split<;>omega
def ze(P:List (Int×Int)):List Int:=P.flatMap λp=>[p.1,p.2]
theorem ab8(P:List (Int×Int)):(ze P).length=2*P.length:=by
 induction P with
 |nil=>rfl
 |cons p P ih=>show(p.1::p.2::ze P).length=_;simp[ih];omega
theorem ab9:∀(P:List (Int×Int)) (k:Nat) (h:k<P.length),(ze P)[2*k]?=some P[k].1∧(ze P)[2*k+1]?=some P[k].2
 |p::P,0,_=>⟨rfl,rfl⟩
 |p::P,k+1,h=>by
  have ih:=ab9 P k (by simpa using h)
  show(p.1::p.2::ze P)[2*(k+1)]?=_∧(p.1::p.2::ze P)[2*(k+1)+1]?=_
  rw[show 2*(k+1)=2*k+1+1 by omega]
  simpa using ih
def Dl(p q:Int×Int):Prop:=p.1<q.1∨p.1=q.1∧p.2<q.2
theorem auR{ok:Int->Int->Bool}{P:List (Int×Int)}(h1:P.Pairwise Dl)(h2:∀p∈P,ok p.1 p.2=true):yS ok (ze P)=true:=by
 unfold yS
 rw[bQ,ab8]
 intro k hk
 have mZ:k<P.length:=by omega
 have g:∀k:Nat,(h:k<P.length)->gt (ze P) (2*(k:Int))=P[k].1∧gt (ze P) (2*(k:Int)+1)=P[k].2:=by
  intro k h
  have:=ab9 P k h
  rw[show(2*(k:Int))=((2*k:Nat):Int) by omega,show(((2*k:Nat):Int)+1)=((2*k+1:Nat):Int) by omega]
  exact⟨KG this.1,KG this.2⟩
 obtain⟨g1,g2⟩:=g k mZ
 rw[g1,g2]
 simp only[bk,Bool.or_eq_true,Bool.not_eq_true',decide_eq_false_iff_not,decide_eq_true_eq]
 refine⟨h2 _ (List.getElem_mem mZ),?_⟩
 rcases Nat.eq_zero_or_pos k with h0|h0
 ·exact .inl (by omega)
 ·right
  obtain⟨g3,g4⟩:=g (k-1) (by omega)
  have e:2*((k-1:Nat):Int)=2*(k:Int)-2:=by omega
  rw[e]at g3
  rw[show 2*((k-1:Nat):Int)+1=2*(k:Int)-1 by omega]at g4
  rw[g3,g4]
  exact List.pairwise_iff_getElem.1 h1 (k-1) k (by omega) mZ (by omega)
section
variable {B:List Int} (hB:∀x∈B,auC x) (hl:B.length<=1048576) {x:Net} (hx:xh x=true∧2<=x.n∧x.aN.length<=2) {id bf:Int} (gS:1<=id∧id<=x.n) (iK:0<=bf∧bf<=1)
 {P:List (Int×Int)} (hP1:P.Pairwise Dl) (hP2:∀p∈P,decide (0<=eF (hZ id p.1 p.2) x.aF)=true)
include hB hl hx gS iK hP1 hP2
end
def zf(r:ah):ah:=⟨r.ae,r.kind,r.owner,r.key,r.seq,[],if r.kind=3 then 1 else 0,false⟩
theorem auS(a k o y s:Int)(t5 t6 t7:T):W6 [ii a,ii k,ii o,ii y,ii s,t5,t6,t7]=some [ii a,ii k,ii o,ii y,ii s,.l [],ii (if k=3 then 1 else 0),bb false]:=by
 rw[ap9]
 by_cases h:k=3
 ·subst h;simp(disch:=omega) only[↓pq,↓pj,ps,pz,↓reduceIte,aj,ak,ap,aq,au,av,aw,ax,ay,Gn]
 ·simp(disch:=omega) only[↓pq,↓pj,ps,pz,↓reduceIte,aj,ak,ap,aq,au,av,aw,ax,ay,Gn,h]
def vd(l:List ah)(i:Nat):List ah:=(l.take i).map zf++l.drop i
theorem OK(l:List ah)(i:Nat):(vd l i).length=l.length:=by unfold vd;simp;omega
theorem auT{l:List ah}{i:Nat}(h:i<l.length):gt (vd l i) (i:Int)=gt l (i:Int):=by
 rw[d_ (l:=vd l i) (by rw[OK];exact h),d_ h]
 unfold vd
 rw[List.getElem_append_right (by rw[List.length_map,List.length_take];omega)]
 simp[Nat.min_eq_left (Nat.le_of_lt h)]
theorem auU{l:List ah}{i:Nat}(h:i<l.length):(vd l i).set i (zf (gt l (i:Int)))=vd l (i+1):=by
 have hl:((l.take i).map zf).length=i:=by rw[List.length_map,List.length_take];omega
 unfold vd
 rw[d_ h,List.set_append_right _ _ (by omega),hl,Nat.sub_self,List.drop_eq_getElem_cons h,List.set_cons_zero,List.take_add_one,List.getElem?_eq_getElem h]
 simp only[Option.toList,List.map_append,List.map_cons,List.map_nil,List.append_assoc,List.cons_append,List.nil_append]
theorem auV(s:List ah)(ar:Int)(h:s.length<=1048576)(hn:bm s):W9 [.l (s.map aB),ii ar]=some [.l (((scope s ar).map zf).map aB)]:=by
 have hl:(scope s ar).length<=s.length:=List.length_filter_le _ _
 rw[ap'];simp(disch:=omega) only[↓pq,↓pj,ps,pz,↓reduceIte,aj,ak,ap,aq,au,av,aw,ax,ay,qY_,MO,asl s ar h hn]
 generalize scope s ar=l at hl
 refine Dd (λi=>[ii (i:Int),.l ((vd l i).map aB)]) l.length rfl (dR (by omega)) ?_ ?_
 ·intro i hi q
  have dl:i<l.length:=by omega
  have g0:=auT dl
  have hL:=OK l i
  have hs:=auU dl
  have p:Prim.ev (.put false 8 0 8) [.l ((vd l i).map aB),ii (i:Int),ii (gt l (i:Int)).ae,ii (gt l (i:Int)).kind,ii (gt l (i:Int)).owner,ii (gt l (i:Int)).key,ii (gt l (i:Int)).seq,.l [],ii (if(gt l (i:Int)).kind=3 then 1 else 0),bb false]=some (.l ((vd l (i+1)).map aB)):=by
   have:=Ca (enc:=aB) (sc:=false) (w:=8) (off:=0) (m:=8) (l:=vd l i) (n:=(i:Int)) (vs:=aB (zf (gt l (i:Int)))) (x:=zf (gt l (i:Int))) (by omega) (by omega) (λ_=>rfl) (by decide) rfl rfl rfl
   rw[Int.toNat_natCast,hs]at this
   exact this
  generalize vd l (i+1)=L2 at p hs
  generalize vd l i=L at*
  have e1:(i:Int)<L.length:=by omega
  simp(disch:=omega) only[↓pq,↓pj,ps,pz,↓reduceIte,aj,ak,ap,aq,au,av,aw,ax,ay,qY_,e1,g0,auS,p]
 ·intro q
  have hz:¬((l.length:Int)<(vd l l.length).length):=by rw[OK];omega
  simp(disch:=omega) only[↓pq,↓pj,ps,pz,↓reduceIte,aj,ak,ap,aq,au,av,aw,ax,ay,qY_,hz]
  unfold vd
  simp
theorem auW(r:ah):dP (fN r) r=true:=by
 unfold fN
 split<;>(rw[sameKey_iff];exact⟨rfl,rfl,rfl,rfl⟩)
theorem kN_(x:Self)(r:ah):dP (wm x r) r=true:=auW r
theorem jL_(x:Self)(r:ah):dP (wl x r) r=true:=by rw[sameKey_iff];exact⟨rfl,rfl,rfl,rfl⟩
theorem aca{a b:ah}(h:¬dP a b=true):dP a b=false:=by
 cases hc:dP a b with
 |false=>rfl
 |true=>exact absurd hc h
theorem OL{s:List ah}(h:iG s){f:ah->ah}(hf:∀r,dP (f r) r=true):s.Pairwise λa b=>dP (f a) (f b)=false:=by
 refine List.Pairwise.imp (λ{a b} kE=>aca λhc=>?_) h
 have h1:=ut_ kE
 rw[wj (Dk (hf a)) (wj hc (hf b))]at h1
 cases h1
theorem OM{f:ah->ah}:∀{l s:List ah},iG s->iG (f_ f s l)
 | [],_,h=>h
 |a::l,s,h=>OM (l:=l) (Ii h (f a))
theorem CC{f:ah->ah}{p:ah->Bool}:∀(l c:List ah),l.foldl (λc r=>if p r=true then dA c (f r)else c) c=f_ f c (l.filter p)
 | [],c=>rfl
 |a::l,c=>by
  rw[List.foldl_cons,CC l,List.filter_cons]
  cases h:p a<;>rfl
theorem ON{x:Self}{W:List ah}(hW:iG W)(hs:iG x.store){r:ah}:r∈ql x W↔(∃w∈W,qj x.store w=true∧r=wl x w)∨∃o∈x.store,su x W o=true∧r=wm x o:=by
 have e1:W.foldl (qk x) []=f_ (wl x) [] (W.filter (qj x.store)):=CC (f:=wl x) (p:=qj x.store) W []
 have e2:ql x W=f_ (wm x) (W.foldl (qk x) []) (x.store.filter (su x W)):=CC (f:=wm x) (p:=su x W) x.store _
 rw[e2,Is ((OL hs (kN_ x)).filter _),e1,Is ((OL hW (jL_ x)).filter _)]
 constructor
 ·rintro(⟨o,ho,e⟩|⟨⟨w,hw,e⟩|⟨h,_⟩,_⟩)
  ·obtain⟨h1,h2⟩:=List.mem_filter.1 ho
   exact .inr ⟨o,h1,h2,e⟩
  ·obtain⟨h1,h2⟩:=List.mem_filter.1 hw
   exact .inl ⟨w,h1,h2,e⟩
  ·cases h
 ·rintro(⟨w,hw,h,e⟩|⟨o,ho,h,e⟩)
  ·refine .inr ⟨.inl ⟨w,List.mem_filter.2 ⟨hw,h⟩,e⟩,λo ho=>aca λhc=>?_⟩
   obtain⟨_,h2⟩:=List.mem_filter.1 ho
   unfold su at h2
   simp only[bk,decide_eq_true_eq]at h2
   have h3:=auL h2.2.1 w hw
   rw[wj (Dk (jL_ x w)) (wj (e▸hc) (kN_ x o))]at h3
   cases h3
  ·exact .inl ⟨o,List.mem_filter.2 ⟨ho,h⟩,e⟩
theorem kH_(x:Self)(W:List ah):iG (ql x W):=by
 have e1:W.foldl (qk x) []=f_ (wl x) [] (W.filter (qj x.store)):=CC (f:=wl x) (p:=qj x.store) W []
 have e2:ql x W=f_ (wm x) (W.foldl (qk x) []) (x.store.filter (su x W)):=CC (f:=wm x) (p:=su x W) x.store _
 rw[e2,e1]
 exact OM (OM .nil)
theorem wq{s N:List ah}(hN:iG N){r:ah}:r∈f_ same s N↔r∈N∨(r∈s∧∀o∈N,dP r o=false):=by
 rw[Is (f:=same) (OL hN λr=>OC r)]
 constructor
 ·rintro(⟨o,ho,e⟩|h)
  ·exact .inl (e▸ho)
  ·exact .inr h
 ·rintro(h|h)
  ·exact .inl ⟨r,h,rfl⟩
  ·exact .inr h
theorem acb{f:ah->ah}{x:ah}:∀{l s:List ah},x∈f_ f s l->x∈s∨∃y∈l,x=f y
 | [],s,h=>.inl h
 |a::l,s,h=>by
  rcases acb (l:=l) h with h|⟨y,hy,e⟩
  ·rcases B8 h with h|h
   ·exact .inr ⟨a,.head _,h⟩
   ·exact .inl h
  ·exact .inr ⟨y,.tail _ hy,e⟩
theorem auX{x:Self}{S:List ah}{w:ah}(h:w∈mH x S):w∈fv x∨w∈ot x S∨w∈Hg x:=by
 rcases acb h with h|⟨y,hy,e⟩
 ·cases h
 ·rw[e]
  rcases List.mem_append.1 hy with hy|hy
  ·rcases List.mem_append.1 hy with hy|hy
   ·exact .inl hy
   ·exact .inr (.inl hy)
  ·exact .inr (.inr hy)
theorem OO(x:Self)(S:List ah):iG (mH x S):=OM .nil
theorem auY{x:Self}{S:List ah}{w:ah}(h:w∈mH x S):w.owner=x.id∧(w.kind=3->w∈Hg x):=by
 rcases auX h with h|h|h
 ·have:=zb h
  exact⟨this.2.2.1,λhk=>by omega⟩
 ·unfold ot at h
  split at h
  ·obtain⟨a,_,h⟩:=List.mem_flatMap.1 h
   have:=Ox h
   exact⟨this.2.2.1,λhk=>by omega⟩
  ·cases h
 ·refine⟨?_,λ_=>h⟩
  obtain⟨t,_,rfl⟩:=List.mem_map.1 h
  rfl
section
variable {x:Self} {Q:Int} {k:Nat} (h:kK x=true) (hb:x.bf<=1) (hq:(∀r∈x.store,r.seq<=Q)∧0<=Q∧Q<=90000) (h3:(x.store.filter rh).length<=k∧k<=22) (ht:x.net.aN.length<=2)
def Hq(x:Self):List ah:=ql x (mH x (qP x.store x.id (fv x)))
def wu(x:Self):List ah:=f_ same x.store (Hq x)
include h hb hq in
theorem acd{r:ah}(hr:r∈Hq x):r.seq<=Q+1001∧1000*x.bf<r.seq∧nu x.store r<r.seq:=by
 obtain⟨hN,gS,iK,jg,tM,cm⟩:=pB h
 have uz:=B7 cm
 have ho:∀q:ah,0<=nu x.store q∧nu x.store q<=Q:=by
  intro q
  refine⟨(Hk cm q).1,?_⟩
  unfold nu
  split
  ·omega
  ·exact hq.1 _ (OI (s:=x.store) (r:=q) (by omega)).1
 have hs:∀q:ah,ss x q<=Q+1001∧1000*x.bf<ss x q∧nu x.store q<ss x q:=by
  intro q
  have:=ho q
  unfold ss
  split<;>omega
 have hk:∀{a b:ah},dP a b=true->nu x.store a=nu x.store b:=by
  intro a b kE
  have e:bG x.store a=bG x.store b:=by
   unfold bG
   congr 1
   funext y
   rw[Bool.eq_iff_iff]
   exact⟨λhh=>wj hh kE,λhh=>wj hh (Dk kE)⟩
  unfold nu
  rw[e]
 rcases(ON (OO _ _) uz).1 hr with⟨w,hw,_,e⟩|⟨o,_,hg,e⟩
 ·rw[hk (e▸jL_ x w:dP r w=true),e]
  exact hs w
 ·rw[hk (e▸kN_ x o:dP r o=true),e]
  exact hs o
include h hb hq in
theorem ace:((Hq x).all λr=>decide (r.seq<=100000))=true:=by
 rw[List.all_eq_true]
 intro r hr
 have:=acd h hb hq hr
 rw[decide_eq_true_eq];omega
include h hb hq in
theorem auZ{r:ah}(hr:r∈wu x):fY r=true:=by
 have cm:=(pB h).2.2.2.2.2
 rcases(wq (kH_ _ _)).1 hr with hr|⟨hr,_⟩
 ·exact abW h _ (ace h hb hq) r hr
 ·exact Cf cm hr
include h h3 ht in
theorem au0:((wu x).filter rh).length<=k+2:=by
 have cm:=(pB h).2.2.2.2.2
 have uz:=B7 cm
 have f1:Fit k (x.store.filter rh):=⟨uz.filter _,λr hr=>ab5 cm r (List.mem_filter.1 hr).1,h3.1⟩
 have hl:=abI x
 have f2:=Fit.mG (f:=same) (l:=Hg x) (λr hr=>by obtain⟨t,_,rfl⟩:=List.mem_map.1 hr;simp[same,qi]) f1
 refine Nat.le_trans (qn_ ((OM uz).filter rh) f2.so λr hr=>?_) (Nat.le_trans f2.len (by omega))
 obtain⟨hr,hk⟩:=List.mem_filter.1 hr
 have mZ:r.kind=3:=by simpa[rh]using hk
 rcases(wq (kH_ _ _)).1 hr with hr|⟨hr,_⟩
 ·rcases(ON (OO _ _) uz).1 hr with⟨w,hw,_,e⟩|⟨o,ho,_,e⟩
  ·exact ci.nr (z:=w) (e▸jL_ x w) ((auY hw).2 (by rw[e]at mZ;exact mZ))
  ·have wR:=kN_ x o
   refine ci.mG ⟨o,List.mem_filter.2 ⟨ho,?_⟩,e▸wR⟩
   have:=(sameKey_iff.1 wR).2.1
   rw[e]at mZ
   simp[rh,<-this,mZ]
 ·exact ci.mG ⟨r,List.mem_filter.2 ⟨hr,hk⟩,OC r⟩
include h hb hq h3 ht in
theorem acf:pA (k+2) (wu x):=⟨OM (B7 (pB h).2.2.2.2.2),λr hr=>auZ h hb hq hr,au0 h h3 ht⟩
include h hb hq h3 ht in
theorem au1:nv x=({x with store:=wu x},Hq x):=by
 unfold nv
 rw[if_pos h]
 unfold xt
 have:=(acf h hb hq h3 ht).len
 exact if_pos ⟨ace h hb hq,by show(wu x).length<=150;omega⟩
end
def ou(e:c_):Int×Int:=(e.node,e.ae)
def mI(ls:List bC)(id m a:Int)(c:List c_):Prop:=(c.Pairwise λx y=>Dl (ou x) (ou y))∧∀e∈c,0<=eF (hZ id e.node e.ae) ls∧(e.node<m∨e.node=m∧e.ae<a)
theorem mI.step{ls:List bC}{id:Int}{v a:Nat}{c:List c_}(h:mI ls id ((v:Int)+1) a c):mI ls id ((v:Int)+1) ((a:Int)+1) (nH ls id v c a):=by
 unfold nH
 split
 ·rename_i hf
  refine⟨List.pairwise_append.2 ⟨h.1,List.pairwise_singleton _ _,λx hx y hy=>?_⟩,λe he=>?_⟩
  ·rw[List.mem_singleton]at hy
   rw[hy]
   exact(h.2 x hx).2
  ·rcases List.mem_append.1 he with he|he
   ·have:=h.2 e he
    exact⟨this.1,by omega⟩
   ·rw[List.mem_singleton]at he
    rw[he]
    exact⟨hf,.inr ⟨rfl,by show(a:Int)<(a:Int)+1;omega⟩⟩
 ·refine⟨h.1,λe he=>?_⟩
  have:=h.2 e he
  exact⟨this.1,by omega⟩
theorem mI.row{ls:List bC}{id:Int}{v:Nat}{c:List c_}(h:mI ls id ((v:Int)+1) 0 c):mI ls id ((v:Int)+1+1) 0 (xj ls id c v):=by
 have h0:mI ls id ((v:Int)+1) ((0:Nat):Int) c:=h
 have h1:=h0.step
 have h1:mI ls id ((v:Int)+1) ((1:Nat):Int) (nH ls id v c 0):=h1
 have h2:=h1.step
 have h2:mI ls id ((v:Int)+1) ((2:Nat):Int) (nH ls id v (nH ls id v c 0) 1):=h2
 have h3:=h2.step
 show mI ls id ((v:Int)+1+1) 0 (nH ls id v (nH ls id v (nH ls id v c 0) 1) 2)
 refine⟨h3.1,λe he=>?_⟩
 have:=h3.2 e he
 exact⟨this.1,by omega⟩
theorem Hr(ls:List bC)(id:Int):∀k:Nat,mI ls id ((k:Int)+1) 0 ((List.range k).foldl (xj ls id) [])
 |0=>⟨.nil,by simp⟩
 |k+1=>by
  rw[List.range_succ,List.foldl_append]
  have:=(Hr ls id k).row
  show mI ls id (((k+1:Nat):Int)+1) 0 (xj ls id _ k)
  rw[show(((k+1:Nat):Int)+1)=(k:Int)+1+1 by omega]
  exact this
theorem au2(es:List c_):lE es=ze ((es.filter λe=>e.both).map ou):=by
 have:∀(l:List c_) (c:List Int),l.foldl B3 c=c++ze ((l.filter λe=>e.both).map ou):=by
  intro l
  induction l with
  |nil=>intro c;simp[ze]
  |cons e l ih=>
   intro c
   rw[List.foldl_cons,ih,List.filter_cons]
   unfold B3
   cases hb:e.both with
   |true=>simp[ze,ou]
   |false=>simp
 exact this es []
def fb(x:Self)(es:List c_):Prop:=es.map ou=(pu x.net.aF x.id x.net.n).map ou
theorem CD{n:Node}(h:lF n=true):fb n.self n.dD:=by
 obtain⟨_,hl,_⟩:=Iu h
 unfold lF zK at h
 simp only[bk,decide_eq_true_eq]at h
 have ha:=bQ.1 h.2.1.2
 refine List.ext_getElem (by simp[hl]) λi h1 h2=>?_
 rw[List.length_map]at h1 h2
 have:=ha i h1
 unfold yU at this
 simp only[bk,decide_eq_true_eq]at this
 rw[List.getElem_map,List.getElem_map,<-d_ h1,<-d_ h2]
 exact Prod.ext this.1 this.2.1
theorem fb.heard{x:Self}{es:List c_}(h:fb x es)(hn:0<=x.net.n):(lE es).length%2=0∧yS (λv a=>decide (0<=eF (hZ x.id v a) x.net.aF)) (lE es)=true:=by
 have hA:=Hr x.net.aF x.id x.net.n.toNat
 have hA:mI x.net.aF x.id ((x.net.n.toNat:Int)+1) 0 (pu x.net.aF x.id x.net.n):=hA
 have hp:(es.map ou).Pairwise Dl:=by
  rw[h]
  exact List.pairwise_map.2 hA.1
 rw[au2]
 refine⟨by rw[ab8];omega,auR (List.pairwise_map.2 ((List.pairwise_map.1 hp).filter _)) λp rR=>?_⟩
 obtain⟨e,he,rfl⟩:=List.mem_map.1 rR
 have:ou e∈(pu x.net.aF x.id x.net.n).map ou:=by rw[<-h];exact List.mem_map_of_mem (List.mem_filter.1 he).1
 obtain⟨e',he',e1⟩:=List.mem_map.1 this
 rw[decide_eq_true_eq,<-e1]
 exact(hA.2 e' he').1
theorem OP{x:Self}(h:kK x=true){es:List c_}(he:fb x es):kK {x with heard:=lE es}=true:=by
 have hn:=(wh (pB h).1).1
 obtain⟨h1,h2⟩:=he.heard (by omega)
 unfold kK at h⊢
 simp only[bk,decide_eq_true_eq,aW]at h⊢
 exact⟨h.1,h.2.1,h.2.2.1,⟨h1,h2⟩,h.2.2.2.2⟩
theorem OQ{x:Self}{es:List c_}(h:fb x es):fb x (es.map iu):=by
 unfold fb at h⊢
 rw[List.map_map]
 exact h
structure CE (Q:Int) (k:Nat) (n:Node):Prop where
 ok:lF n=true
 bf:n.self.bf<=1
 seq:∀r∈n.self.store,r.seq<=Q
 three:(n.self.store.filter rh).length<=k
 aN:n.self.net.aN.length<=2
theorem au3{w e:c_}(h:yU w e=true):yU w (iu e)=true:=by
 unfold yU at h⊢
 simp only[bk,aW,decide_eq_true_eq,Bool.not_eq_true']at h⊢
 refine⟨h.1,h.2.1,?_,?_⟩
 ·show 0<=(if 0>e.left-1 then 0 else e.left-1)∧(if 0>e.left-1 then 0 else e.left-1)<=3
  split<;>omega
 ·show(e.both&&decide ((if 0>e.left-1 then 0 else e.left-1)>0)&&decide ((if 0>e.left-1 then 0 else e.left-1)=0))=false
  by_cases h0:(if 0>e.left-1 then 0 else e.left-1)=0
  ·rw[h0];simp
  ·simp[h0]
theorem CE.tick{Q:Int}{k:Nat}{n:Node}(h:CE Q k n)(hQ:0<=Q∧Q<=90000)(hk:k<=22):CE (Q+1001) (k+2) (qm n)∧(qm n).self={n.self with heard:=lE (n.dD.map iu),store:=wu {n.self with heard:=lE (n.dD.map iu)}}:=by
 obtain⟨x,es⟩:=n
 obtain⟨dQ,hb,hq,h3,ht⟩:=h
 simp only at hb hq h3 ht
 have hA:=OQ (CD dQ)
 obtain⟨hs,wL,_⟩:=Iu dQ
 simp only at hs wL
 have hx:=OP hs hA
 have sx:(∀r∈({x with heard:=lE (es.map iu)}:Self).store,r.seq<=Q)∧0<=Q∧Q<=90000:=⟨hq,hQ⟩
 have Pj:(({x with heard:=lE (es.map iu)}:Self).store.filter rh).length<=k∧k<=22:=⟨h3,hk⟩
 have r1:=au1 hx hb sx Pj ht
 have r2:=acf hx hb sx Pj ht
 have e:qm ⟨x,es⟩=⟨{x with heard:=lE (es.map iu),store:=wu {x with heard:=lE (es.map iu)}},es.map iu⟩:=by
  unfold qm
  simp only
  rw[r1]
 rw[e]
 refine⟨⟨?_,hb,λr hr=>?_,r2.2.2,ht⟩,rfl⟩
 ·unfold lF zK
  simp only[bk,decide_eq_true_eq]
  refine⟨ab7 hx (r2.ok (by omega)),⟨by rw[List.length_map,wL],bQ.2 λi hi=>?_⟩,?_⟩
  ·rw[List.length_map]at hi
   have h1:lF ⟨x,es⟩=true:=dQ
   unfold lF zK at h1
   simp only[bk,decide_eq_true_eq]at h1
   have:=au3 (bQ.1 h1.2.1.2 i hi)
   rw[d_ (l:=es.map iu) (by simpa using hi),List.getElem_map,<-d_ hi]
   exact this
  ·rw[iX]
 ·rcases(wq (kH_ _ _)).1 hr with hr|⟨hr,_⟩
  ·exact(acd hx hb sx hr).1
  ·have:=hq r hr
   omega
def CF(e:c_):Prop:=(0<=e.left∧e.left<=3)∧(e.both=true->e.left≠0)
theorem au4{x:Self}{es:List c_}(h:kK x=true)(hA:fb x es)(hL:∀e∈es,CF e):lF ⟨{x with heard:=lE es},es⟩=true:=by
 have hlen:es.length=(pu x.net.aF x.id x.net.n).length:=by have:=congrArg List.length hA;simpa using this
 unfold lF zK
 simp only[bk,decide_eq_true_eq]
 refine⟨OP h hA,⟨by omega,bQ.2 λi hi=>?_⟩,by rw[iX]⟩
 have mO:i<(pu x.net.aF x.id x.net.n).length:=by omega
 have e1:ou es[i]=ou (pu x.net.aF x.id x.net.n)[i]:=by
  have h1:(es.map ou)[i]'(by simpa using hi)=((pu x.net.aF x.id x.net.n).map ou)[i]'(by simpa using mO):=by
   congr 1
  rw[List.getElem_map,List.getElem_map]at h1
  exact h1
 have h1:=(Prod.mk.inj e1).1
 have h2:=(Prod.mk.inj e1).2
 obtain⟨h3,h4⟩:=hL _ (List.getElem_mem hi)
 rw[d_ hi,d_ mO]
 unfold yU
 simp only[bk,aW,decide_eq_true_eq,Bool.not_eq_true']
 refine⟨h1,h2,h3,?_⟩
 cases hb:es[i].both with
 |false=>rfl
 |true=>simpa using h4 hb
def zg(l:List Int):Bool:=eo (λx=>gZ x 1 6) (λa b=>!decide (a>=b)) l
def wv(r:ah):Bool:=xi (uB r) r
def Hs(p:bc):Bool:=
 gZ p.kind 1 3&&gZ p.vT 1 6&&gZ p.to 1 6&& !(p.vT==p.to)&&gZ p.ae 0 2&&zg p.heard&&
  (if p.kind=1 then decide (p.list.length=0)else decide (p.heard.length=0))&&dX p.list&&p.list.all (λr=>B4 p.ae r&&(!(p.kind==2)||wv r))
def Ht(p:bc):Bool:=(if p.kind=1 then decide (p.list.length=0)else decide (p.heard.length=0))&&dX p.list&&p.list.all (λr=>B4 p.ae r&&(!(p.kind==2)||wv r))
theorem acg(p:bc):Hs p=(gZ p.kind 1 3&&gZ p.vT 1 6&&gZ p.to 1 6&& !(p.vT==p.to)&&gZ p.ae 0 2&&(zg p.heard&&Ht p)):=by
 unfold Hs Ht
 simp only[Bool.and_assoc]
def Has(s:List ah)(r:ah)(n:Int):Prop:=∃x∈s,dP x r=true∧n<=x.seq
theorem au5{s:List ah}(hs:iG s){r:ah}(h:Ho s r=true):∀x∈s,dP x r=true->x.seq<r.seq:=by
 intro x hx hk
 unfold Ho at h
 rw[if_pos (OJ hx hk),ab4 hs hx hk]at h
 simp only[bk,decide_eq_true_eq]at h
 exact h.2
theorem Has.ins{s:List ah}(hs:iG s){r:ah}{n:Int}(h:Has s r n)(y:ah):Has (sy s y) r n:=by
 obtain⟨x,hx,hk,hn⟩:=h
 unfold sy
 split
 ·rename_i hi
  cases hc:dP x y with
  |true=>
   have:=au5 hs hi x hx hc
   refine⟨y,fw.2 (.inl rfl),?_,by omega⟩
   rw[sameKey_iff]at*
   omega
  |false=>exact⟨x,fw.2 (.inr ⟨hx,hc⟩),hk,hn⟩
 ·exact⟨x,hx,hk,hn⟩
theorem ach{s:List ah}{r:ah}(h:r∈s):Has s r r.seq:=⟨r,h,OC r,Int.le_refl _⟩
theorem au6{s:List ah}{a b:ah}(kE:dP a b=true):bG s a=bG s b:=by
 unfold bG
 congr 1
 funext y
 rw[Bool.eq_iff_iff]
 exact⟨λhh=>wj hh kE,λhh=>wj hh (Dk kE)⟩
theorem aci{s:List ah}{a b:ah}(kE:dP a b=true):nu s a=nu s b:=by unfold nu;rw[au6 kE]
theorem au7{s:List ah}(hs:iG s){r x:ah}(hx:x∈s)(hk:dP x r=true):nu s r=x.seq:=by
 unfold nu
 have:=OJ hx hk
 rw[if_neg (by omega),ab4 hs hx hk]
structure acj (x:Self) (y:Self×List ah):Prop where
 sorted:iG y.2
 awR:∀r∈y.2,nu x.store r<r.seq
 rok:∀r∈y.2,fY r=true
 store:dX y.1.store=true
 mem:∀r∈y.2,r∈y.1.store
 has:∀r∈x.store,Has y.1.store r r.seq
 same:y.1={x with store:=y.1.store}
theorem au8{x:Self}(h:kK x=true):acj x (nv x):=by
 obtain⟨hN,gS,iK,jg,tM,cm⟩:=pB h
 have uz:=B7 cm
 unfold nv
 rw[if_pos h]
 unfold xt
 split
 ·rename_i hc
  have hF:=abW h (qP x.store x.id (fv x)) hc.1
  have gJ:∀r∈ql x (mH x (qP x.store x.id (fv x))),nu x.store r<r.seq:=by
   intro r hr
   have hs:∀q:ah,nu x.store q<ss x q:=λq=>by unfold ss;split<;>omega
   rcases(ON (OO _ _) uz).1 hr with⟨w,hw,_,e⟩|⟨o,_,hg,e⟩
   ·rw[aci (e▸jL_ x w:dP r w=true),e]
    exact hs w
   ·rw[aci (e▸kN_ x o:dP r o=true),e]
    exact hs o
  generalize hG:ql x (mH x (qP x.store x.id (fv x)))=N at*
  have hNs:iG N:=hG▸kH_ x _
  refine⟨hNs,gJ,hF,?_,λr hr=>(wq hNs).2 (.inl hr),λr hr=>?_,rfl⟩
  ·refine Hp (OM uz) (λr hr=>?_) hc.2
   rcases(wq hNs).1 hr with h1|h1
   ·exact hF r h1
   ·exact Hm (by unfold dX at cm;simp only[bk]at cm;exact cm.2) r h1.1
  ·by_cases hk:∃o∈N,dP r o=true
   ·obtain⟨o,ho,hk⟩:=hk
    have:=gJ o ho
    rw[au7 uz hr hk]at this
    exact⟨o,(wq hNs).2 (.inl ho),Dk hk,by omega⟩
   ·refine ach ((wq hNs).2 (.inr ⟨hr,λo ho=>?_⟩))
    cases hc:dP r o with
    |false=>rfl
    |true=>exact absurd ⟨o,ho,hc⟩ hk
 ·exact⟨.nil,λr hr=>(by cases hr),λr hr=>(by cases hr),cm,λr hr=>(by cases hr),λr hr=>ach hr,rfl⟩
theorem au9{p:bc}(h:Hs p=true):p.heard.length<=6∧p.list.length<=150∧bm p.list:=by
 rw[acg]at h
 unfold Ht at h
 simp only[bk]at h
 have h1:=h.2.1
 have h2:=h.2.2.1.2
 unfold zg at h1
 refine⟨G_ (n:=6) ?_ ?_,P' h2,ab5 h2⟩
 ·have:=abz (by intro a b c;simp;omega) h1
  exact this.imp (by intro a b;simp)
 ·intro x hx
  have:=Hm h1 x hx
  exact aW.1 this
structure zh (id:Int) (es:List c_) (p:bc):Prop where
 vT:p.vT=id
 ear:(p.to,p.ae)∈es.map ou
 ok:Hs p=true
theorem Hu{x:Self}{es:List c_}(hN:xh x.net=true)(h:fb x es){v a:Int}(hp:(v,a)∈es.map ou):(1<=v∧v<=6)∧(0<=a∧a<=2)∧v≠x.id:=by
 have hA:=Hr x.net.aF x.id x.net.n.toNat
 have hA:mI x.net.aF x.id ((x.net.n.toNat:Int)+1) 0 (pu x.net.aF x.id x.net.n):=hA
 rw[h]at hp
 obtain⟨e,he,e1⟩:=List.mem_map.1 hp
 have hv:e.node=v:=(Prod.mk.inj e1).1
 have ha:e.ae=a:=(Prod.mk.inj e1).2
 have h1:=(hA.2 e he).1
 have h2:=uc _ _ h1
 have h3:=ub (hZ x.id e.node e.ae) x.net.aF
 obtain⟨_,_,_,hl,_⟩:=wh hN
 have h4:=bQ.1 hl (eF (hZ x.id e.node e.ae) x.net.aF).toNat (by omega)
 rw[show(((eF (hZ x.id e.node e.ae) x.net.aF).toNat:Nat):Int)=eF (hZ x.id e.node e.ae) x.net.aF by omega]at h4
 simp only[hZ,bk,Bool.or_eq_true,beq_iff_eq]at h2
 simp only[bk,mT,aW,decide_eq_true_eq]at h4
 omega
theorem acm{p:bc}(hk:1<=p.kind∧p.kind<=3)(hf:1<=p.vT∧p.vT<=6)(ht:1<=p.to∧p.to<=6)(dk:p.vT≠p.to)(ha:0<=p.ae∧p.ae<=2)(hu:zg p.heard=true)
  (h1:if p.kind=1 then p.list.length=0 else p.heard.length=0)(hs:dX p.list=true)(hl:∀r∈p.list,B4 p.ae r=true∧(p.kind=2->wv r=true)):Hs p=true:=by
 unfold Hs
 simp only[bk,aW,Bool.not_eq_true',beq_eq_false_iff_ne,ne_eq]
 refine⟨⟨⟨⟨⟨⟨⟨⟨hk,hf⟩,ht⟩,dk⟩,ha⟩,hu⟩,?_⟩,hs⟩,List.all_eq_true.2 λr hr=>?_⟩
 ·split at h1<;>rename_i c
  ·rw[if_pos c];exact decide_eq_true h1
  ·rw[if_neg c];exact decide_eq_true h1
 ·have:=hl r hr
  rw[this.1,Bool.true_and]
  by_cases c:p.kind=2
  ·rw[this.2 c];simp
  ·simp[c]
theorem au_{s:List ah}(h:iG s)(hr:∀r∈s,fY r=true)(hl:s.length<=150)(a:Int):dX (scope s a)=true∧∀r∈scope s a,B4 a r=true:=
 ⟨Hp (List.Pairwise.filter _ h) (λr h=>hr r (List.mem_filter.1 h).1) (Nat.le_trans (List.length_filter_le _ _) hl),λr h=>(List.mem_filter.1 h).2⟩
theorem au'{r:ah}(h:fY r=true):fY (uB r)=true:=by
 unfold fY at h⊢
 unfold uB
 simp only[bk]at h⊢
 refine⟨h.1,?_⟩
 have h2:=h.2
 by_cases k1:r.kind=1
 ·rw[if_pos k1]at h2⊢
  simp only[bk,decide_eq_true_eq]at h2
  rw[k1]
  simp[h2.1.1.1.1,h2.1.1.1.2,u0,ln,decide_eq_true]
 ·rw[if_neg k1]at h2⊢
  by_cases k2:r.kind=2
  ·rw[if_pos k2]at h2⊢
   simp only[bk,decide_eq_true_eq]at h2
   rw[k2]
   simp[gZ]
   exact⟨aW.1 h2.1.1.1.1,aW.1 h2.1.1.1.2⟩
  ·rw[if_neg k2]at h2⊢
   by_cases k3:r.kind=3
   ·rw[if_pos k3]at h2⊢
    simp only[bk,decide_eq_true_eq]at h2
    rw[k3]
    simp[h2.1.1.1,h2.1.1.2,gZ]
    have:=h2.1.1.2
    rw[aW]at this
    omega
   ·rw[if_neg k3]at h2;cases h2
theorem ava(r:ah):wv (uB r)=true:=by
 unfold wv uB xi dP Dc
 simp[ln]
theorem acn{s:List ah}(h:dX s=true)(a:Int):dX (xu s a)=true∧∀r∈xu s a,B4 a r=true∧((2:Int)=2->wv r=true):=by
 have hr:=Hm (by unfold dX at h;simp only[bk]at h;exact h.2:eo fY eQ s=true)
 obtain⟨h1,h2⟩:=au_ (B7 h) hr (P' h) a
 refine⟨Hp (List.pairwise_map.2 ((B7 h1).imp λ{x y} q=>q)) (λr iN=>?_) (by unfold xu;rw[List.length_map];exact P' h1),λr iN=>?_⟩
 ·obtain⟨y,hy,rfl⟩:=List.mem_map.1 iN
  exact au' (hr y (List.mem_filter.1 hy).1)
 ·obtain⟨y,hy,rfl⟩:=List.mem_map.1 iN
  exact⟨h2 y hy,λ_=>ava y⟩
theorem avb{x:Self}{es:List c_}(hx:kK x=true)(hA:fb x es){e:c_}(he:e∈es){k:Int}(hk:k=2∨k=3){l:List ah}(hs:dX l=true)(hl:∀r∈l,B4 e.ae r=true∧(k=2->wv r=true)):zh x.id es ⟨k,x.id,e.node,e.ae,[],l⟩:=by
 obtain⟨hN,gS,_⟩:=pB hx
 have hn:=(wh hN).1
 have hm:(e.node,e.ae)∈es.map ou:=List.mem_map_of_mem he
 obtain⟨h1,h2,h3⟩:=Hu hN hA hm
 refine⟨rfl,hm,acm (by show 1<=k∧k<=3;omega) (by show 1<=x.id∧x.id<=6;omega) h1 (λc=>h3 c.symm) h2 rfl ?_ hs hl⟩
 rw[if_neg (by show¬k=1;omega)]
 rfl
theorem avc{es:List c_}{a x:Int}(h:x∈zL es a):∃f∈es,f.node=x:=by
 have:∀(l:List c_) (c:List Int),x∈l.foldl (λc f=>if f.ae=a then(if f.left>0 then fu c f.node else c)else c) c->x∈c∨∃f∈l,f.node=x:=by
  intro l
  induction l with
  |nil=>intro c h;exact .inl h
  |cons e l ih=>
   intro c h
   rw[List.foldl_cons]at h
   rcases ih _ h with h|⟨f,hf,e1⟩
   ·split at h
    ·split at h
     ·rcases g_.1 h with h|h
      ·exact .inr ⟨e,.head _,h.symm⟩
      ·exact .inl h
     ·exact .inl h
    ·exact .inl h
   ·exact .inr ⟨f,.tail _ hf,e1⟩
 rcases this es [] h with h|h
 ·cases h
 ·exact h
theorem avd{x:Self}{es:List c_}(hx:kK x=true)(hA:fb x es){e:c_}(he:e∈es):zh x.id es ⟨1,x.id,e.node,e.ae,zL es e.ae,[]⟩:=by
 obtain⟨hN,gS,_⟩:=pB hx
 have hn:=(wh hN).1
 have hm:(e.node,e.ae)∈es.map ou:=List.mem_map_of_mem he
 obtain⟨h1,h2,h3⟩:=Hu hN hA hm
 refine⟨rfl,hm,acm (by show(1:Int)<=1∧(1:Int)<=3;decide) (by show 1<=x.id∧x.id<=6;omega) h1 (λc=>h3 c.symm) h2 ?_ (by rw[if_pos rfl];rfl) rfl (by intro r hr;cases hr)⟩
 have hp:=(auB es e.ae (i:=es.length)).1
 rw[List.take_length]at hp
 unfold zg
 refine y_ (λy hy=>?_) (hp.imp λ{a b} h=>by simp;omega)
 obtain⟨f,hf,rfl⟩:=avc hy
 exact aW.2 (Hu hN hA (List.mem_map_of_mem (f:=ou) hf)).1
theorem ave{x:Self}{es:List c_}(hx:kK x=true)(hA:fb x es){e:c_}(he:e∈es):∀p∈uC x es e,zh x.id es p:=by
 intro p hp
 unfold uC at hp
 rcases List.mem_cons.1 hp with rfl|hp
 ·exact avd hx hA he
 ·split at hp
  ·rw[List.mem_singleton]at hp
   rw[hp]
   have cm:=(pB hx).2.2.2.2.2
   exact avb hx hA he (.inl rfl) (acn cm e.ae).1 (acn cm e.ae).2
  ·cases hp
theorem avf{x:Self}{es:List c_}(h:lF ⟨x,es⟩=true){s:List ah}(hs:dX s=true):lF ⟨{x with store:=s},es⟩=true:=by
 unfold lF at h⊢
 simp only[bk]at h⊢
 exact⟨ab7 h.1 hs,h.2⟩
theorem aco{n:Node}(h:lF n=true):∀e∈n.dD,CF e:=by
 intro e he
 obtain⟨i,hi,rfl⟩:=List.mem_iff_getElem.1 he
 unfold lF zK at h
 simp only[bk,decide_eq_true_eq]at h
 have:=bQ.1 h.2.1.2 i hi
 rw[d_ hi]at this
 unfold yU at this
 simp only[bk,aW,Bool.not_eq_true',decide_eq_true_eq]at this
 refine⟨this.2.2.1,λhb=>?_⟩
 have h2:=this.2.2.2
 rw[hb]at h2
 simpa using h2
theorem avg{e:c_}(h:CF e):CF (iu e):=by
 obtain⟨h1,h2⟩:=h
 unfold iu
 refine⟨?_,λhb=>?_⟩
 ·show 0<=(if 0>e.left-1 then 0 else e.left-1)∧(if 0>e.left-1 then 0 else e.left-1)<=3
  split<;>omega
 ·simp only[bk,decide_eq_true_eq]at hb
  have:=hb.2
  intro hc
  have hc:(if 0>e.left-1 then 0 else e.left-1)=0:=hc
  omega
structure Iv (n:Node) (r:Node×List bc):Prop where
 ok:lF r.1=true
 has:∀x∈n.self.store,Has r.1.self.store x x.seq
 says:∀p∈r.2,zh n.self.id n.dD p
 few:r.2.length<=36
theorem avh{x:Self}{es es2:List c_}(h:fb x es)(h2:fb x es2){id:Int}{p:bc}(hp:zh id es2 p):zh id es p:=
 ⟨hp.vT,by have:=hp.ear;rw[h2]at this;rw[h];exact this,hp.ok⟩
theorem avi{n:Node}(h:lF n=true){es:List c_}(hA:fb n.self es)(hL:∀e∈es,CF e):
  lF ⟨(nv {n.self with heard:=lE es}).1,es⟩=true∧acj {n.self with heard:=lE es} (nv {n.self with heard:=lE es}):=by
 have hx:=(Iu h).1
 have hO:=au8 (OP hx hA)
 refine⟨?_,hO⟩
 have:=avf (au4 hx hA hL) hO.store
 rw[hO.same]
 exact this
theorem avj{n:Node}(h:lF n=true):Iv n (ri n)∧n.dD.length<=(ri n).2.length:=by
 have hA:=CD h
 have zr:=OQ hA
 obtain⟨dQ,hO⟩:=avi h zr (λe he=>by obtain⟨f,hf,rfl⟩:=List.mem_map.1 he;exact avg (aco h f hf))
 have wL:=(Iu h).2.2
 unfold ri
 rw[if_pos h]
 have hN:lF (qm n)=true:=dQ
 have hs:=(Iu hN).1
 have gS:(qm n).self.id=n.self.id:=by
  show(nv {n.self with heard:=lE (n.dD.map iu)}).1.id=n.self.id
  rw[hO.same]
 have hAt:=CD hN
 have hAx:fb n.self (qm n).dD:=zr
 have hlen:∀l:List c_,l.length<=(l.flatMap (uC (qm n).self (qm n).dD)).length∧(l.flatMap (uC (qm n).self (qm n).dD)).length<=2*l.length:=by
  intro l
  induction l with
  |nil=>simp
  |cons e l ih=>
   rw[List.flatMap_cons,List.length_append,List.length_cons]
   have:1<=(uC (qm n).self (qm n).dD e).length∧(uC (qm n).self (qm n).dD e).length<=2:=by
    unfold uC
    split<;>simp
   omega
 have hl:=hlen (qm n).dD
 have x_:(qm n).dD.length=n.dD.length:=by show(n.dD.map iu).length=_;simp
 refine⟨⟨hN,λr hr=>hO.has r hr,λp hp=>?_,by show(List.flatMap _ _).length<=36;omega⟩,by show _<=(List.flatMap _ _).length;omega⟩
 obtain⟨e,he,hp⟩:=List.mem_flatMap.1 hp
 have:=ave hs hAt he p hp
 rw[gS]at this
 exact avh hA hAx this
set_option maxHeartbeats 1000000 in
theorem avl(y:Self)(es:List c_)(h2:es.length<=18)(h4:y.store.length<=1048576)(h5:bm y.store):
  iter (sV rounds Pu r_ (.l (es.map bS)) (ii y.id) (ii y.bf) (ii y.net.n) (.l (y.net.aF.map dC)) (.l (y.net.aN.map ef)) (.l (y.heard.map aD)) (.l (y.store.map aB)) (ii (es.length:Int))) rounds [.l [],ii 0]
   =some [ii y.id,ii y.bf,ii y.net.n,.l (y.net.aF.map dC),.l (y.net.aN.map ef),.l (y.heard.map aD),.l (y.store.map aB),.l (es.map bS),.l ((es.flatMap (uC y es)).map gd)]:=by
 refine(jc es (λi c=>[.l (c.map gd),ii i]) (λc e=>c++uC y es e)
  (λc=>some [ii y.id,ii y.bf,ii y.net.n,.l (y.net.aF.map dC),.l (y.net.aN.map ef),.l (y.heard.map aD),.l (y.store.map aB),.l (es.map bS),.l (c.map gd)]) [] (λi c=>c.length<=2*i) rfl (dR (by omega)) (by simp) ?_ ?_).trans (by rw[Od,List.nil_append])
 ·intro i c hi hc
  have zq:(uC y es (gt es (i:Int))).length<=2:=by unfold uC;split<;>simp
  refine⟨by rw[List.length_append];omega,λq=>?_⟩
  simp(disch:=omega) only[↓pq,↓pj,ps,pz,↓reduceIte,aj,ak,ap,aq,au,av,aw,ax,ay,sU,uq,sV,ur,hi]
  refine jc es (λj d=>[.l (d.map aD),ii j]) (λd f=>if f.ae=(gt es (i:Int)).ae then(if f.left>0 then fu d f.node else d)else d) (λd=>q [.l ((c++(⟨1,y.id,(gt es (i:Int)).node,(gt es (i:Int)).ae,d,[]⟩::if(gt es (i:Int)).both=true then [(⟨2,y.id,(gt es (i:Int)).node,(gt es (i:Int)).ae,[],xu y.store (gt es (i:Int)).ae⟩:bc)]else [])).map gd),ii ((i:Int)+1)]) [] (λj d=>d.Pairwise (· < ·)∧d.length<=j) rfl (dR (by omega)) ⟨.nil,by simp⟩ ?_ ?_
  ·intro j d hj hd
   have oB:=hd.2
   have hil:=GP d (gt es (j:Int)).node
   refine⟨?_,λw=>?_⟩
   ·split
    ·split
     ·exact⟨B_ hd.1 _,by omega⟩
     ·exact⟨hd.1,by omega⟩
    ·exact⟨hd.1,by omega⟩
   ·have KB:=λk=>auA d (gt es (j:Int)).node hd.1 (by omega) k
    by_cases k1:(gt es (j:Int)).ae=(gt es (i:Int)).ae
    ·by_cases k2:(gt es (j:Int)).left>0
     ·simp(disch:=omega) only[↓pq,↓pj,ps,pz,↓reduceIte,aj,ak,ap,aq,au,av,aw,ax,ay,sU,uq,sV,ur,hj,k1,k2,KB]
     ·simp(disch:=omega) only[↓pq,↓pj,ps,pz,↓reduceIte,aj,ak,ap,aq,au,av,aw,ax,ay,sU,uq,sV,ur,hj,k1,k2]
    ·simp(disch:=omega) only[↓pq,↓pj,ps,pz,↓reduceIte,aj,ak,ap,aq,au,av,aw,ax,ay,sU,uq,sV,ur,hj,k1]
  ·intro d w hd
   have ml:=KR 1 y.id (gt es (i:Int)).node (gt es (i:Int)).ae d []
   rw[List.map_nil]at ml
   have lg:Prim.ev (.app false 6) [.l (c.map gd),.l ([(⟨1,y.id,(gt es (i:Int)).node,(gt es (i:Int)).ae,d,[]⟩:bc)].map gd)]=some (.l ((c++[(⟨1,y.id,(gt es (i:Int)).node,(gt es (i:Int)).ae,d,[]⟩:bc)]).map gd)):=Po (by simp;omega)
   have xv:=KR 2 y.id (gt es (i:Int)).node (gt es (i:Int)).ae [] (xu y.store (gt es (i:Int)).ae)
   rw[List.map_nil]at xv
   have CG:Prim.ev (.app false 6) [.l ((c++[(⟨1,y.id,(gt es (i:Int)).node,(gt es (i:Int)).ae,d,[]⟩:bc)]).map gd),.l ([(⟨2,y.id,(gt es (i:Int)).node,(gt es (i:Int)).ae,[],xu y.store (gt es (i:Int)).ae⟩:bc)].map gd)]=some (.l ((c++[(⟨1,y.id,(gt es (i:Int)).node,(gt es (i:Int)).ae,d,[]⟩:bc)]++[(⟨2,y.id,(gt es (i:Int)).node,(gt es (i:Int)).ae,[],xu y.store (gt es (i:Int)).ae⟩:bc)]).map gd)):=Po (by simp;omega)
   have hhd:=auy y.store (gt es (i:Int)).ae h4 h5
   cases iK:(gt es (i:Int)).both with
   |true=>
    rw[iK]at*
    simp(disch:=omega) only[↓pq,↓pj,ps,pz,↓reduceIte,aj,ak,ap,aq,au,av,aw,ax,ay,sU,uq,sV,ur,ml,lg,hhd,xv,CG,iK]
    simp only[if_true,List.append_assoc,List.cons_append,List.nil_append]
   |false=>
    simp(disch:=omega) only[↓pq,↓pj,ps,pz,↓reduceIte,aj,ak,ap,aq,au,av,aw,ax,ay,sU,uq,sV,ur,ml,lg,iK,dS]
 ·intro c q hc
  simp(disch:=omega) only[↓pq,↓pj,ps,pz,↓reduceIte,aj,ak,ap,aq,au,av,aw,ax,ay,sU,uq,sV,ur,]
theorem avm(n:Node)(h1:n.self.net.aF.length<=1048576)(h2:n.self.net.aN.length<=1048576)(h3:n.self.heard.length<=1048576)(h4:n.self.store.length<=1048576)(h5:bm n.self.store)(h6:n.dD.length<=1048576):
  ZA (iQ n)=some (iQ (ri n).1++[.l ((ri n).2.map gd)]):=by
 obtain⟨x,es⟩:=n
 simp only at h1 h2 h3 h4 h5 h6
 simp only[iQ]
 have lU:=auz x es h1 h2 h3 h4 h5 h6
 have dQ:=asf x.id x.bf x.net.n x.net.aF x.net.aN x.heard x.store es h1 h2 h3 h4 h5 h6
 rw[show(⟨⟨x.id,x.bf,⟨x.net.n,x.net.aF,x.net.aN⟩,x.heard,x.store⟩,es⟩:Node)=⟨x,es⟩ from rfl]at dQ
 rw[arS]
 cases hk:lF ⟨x,es⟩with
 |false=>
  rw[hk]at dQ
  unfold ri
  rw[if_neg (by rw[hk];decide)]
  simp(disch:=omega) only[↓pq,↓pj,ps,pz,↓reduceIte,aj,ak,ap,aq,au,av,aw,ax,ay,sU,uq,sV,ur,kU_,lU,dQ,dS]
  rfl
 |true=>
  rw[hk]at dQ
  obtain⟨hs,_,wL⟩:=Iu hk
  simp only at hs wL
  unfold ri
  rw[if_pos hk]
  unfold qm
  simp only
  have uP:=jt_ (es.map iu)
  have J2:(es.map iu).length=es.length:=List.length_map ..
  obtain⟨y1,y2,y3,y4,y5,y6⟩:=abX (x:={x with heard:=lE (es.map iu)}) h4 h5 (by show(lE (es.map iu)).length<=_;omega)
  have hR:=aup {x with heard:=lE (es.map iu)} h1 h2 (by show(lE (es.map iu)).length<=_;omega) h4 h5
  have hH:=aaI (es.map iu) (by omega)
  generalize nv {x with heard:=lE (es.map iu)}=p at hR y1 y2 y3 y4 y5 y6
  obtain⟨y,l⟩:=p
  simp only[ie,List.cons_append,List.nil_append]at hR y1 y2
  have lT:=avl y (es.map iu) (by omega) y1 y2
  rw[J2]at lT
  simp(disch:=omega) only[↓pq,↓pj,ps,pz,↓reduceIte,aj,ak,ap,aq,au,av,aw,ax,ay,sU,uq,sV,ur,kU_,lU,dQ]
  refine Dd (λi=>[ii (i:Int),.l ((qQ es i).map bS)]) es.length rfl (dR (by omega)) ?_ ?_
  ·intro i hi q
   have dl:i<es.length:=by omega
   have hL:=OH es i
   have g0:=abY dl
   have OG:0<=(gt es (i:Int)).left∧(gt es (i:Int)).left<=3:=ab0 hk dl
   obtain⟨v,hv⟩:∃v,v=(if(0:Int)>(gt es (i:Int)).left-1 then 0 else(gt es (i:Int)).left-1):=⟨_,rfl⟩
   have p1:Prim.ev (.put true 4 2 1) [.l ((qQ es i).map bS),ii (i:Int),ii v]=some (.l (((qQ es i).set i ⟨(gt es (i:Int)).node,(gt es (i:Int)).ae,v,(gt es (i:Int)).both⟩).map bS)):=by
    have:=Ca (enc:=bS) (sc:=true) (w:=4) (off:=2) (m:=1) (l:=qQ es i) (n:=(i:Int)) (vs:=[ii v]) (x:=⟨(gt es (i:Int)).node,(gt es (i:Int)).ae,v,(gt es (i:Int)).both⟩) (by omega) (by omega) (λ_=>rfl) (by decide) rfl rfl (by rw[g0];rfl)
    rw[Int.toNat_natCast]at this
    exact this
   have kZ:=abZ dl
   generalize hA:qQ es i=A at*
   have zr:gt (A.set i ⟨(gt es (i:Int)).node,(gt es (i:Int)).ae,v,(gt es (i:Int)).both⟩) (i:Int)=⟨(gt es (i:Int)).node,(gt es (i:Int)).ae,v,(gt es (i:Int)).both⟩:=by
    have:=Cd (l:=A) (i:=(i:Int)) (j:=(i:Int)) (x:=⟨(gt es (i:Int)).node,(gt es (i:Int)).ae,v,(gt es (i:Int)).both⟩) (by omega) (by omega) (by omega)
    rw[if_pos rfl,Int.toNat_natCast]at this
    exact this
   have hB:(A.set i ⟨(gt es (i:Int)).node,(gt es (i:Int)).ae,v,(gt es (i:Int)).both⟩).length=A.length:=List.length_set ..
   have hl3:(gt (A.set i ⟨(gt es (i:Int)).node,(gt es (i:Int)).ae,v,(gt es (i:Int)).both⟩) (i:Int)).left=v:=by rw[zr]
   have p2:∀b:Bool,Prim.ev (.put true 4 3 1) [.l ((A.set i ⟨(gt es (i:Int)).node,(gt es (i:Int)).ae,v,(gt es (i:Int)).both⟩).map bS),ii (i:Int),bb b]=some (.l ((A.set i ⟨(gt es (i:Int)).node,(gt es (i:Int)).ae,v,b⟩).map bS)):=by
    intro b
    have:=Ca (enc:=bS) (sc:=true) (w:=4) (off:=3) (m:=1) (l:=A.set i ⟨(gt es (i:Int)).node,(gt es (i:Int)).ae,v,(gt es (i:Int)).both⟩) (n:=(i:Int)) (vs:=[bb b]) (x:=⟨(gt es (i:Int)).node,(gt es (i:Int)).ae,v,b⟩) (by omega) (by omega) (λ_=>rfl) (by decide) rfl rfl (by rw[zr];rfl)
    rw[Int.toNat_natCast,List.set_set]at this
    exact this
   have ht:iu (gt es (i:Int))=⟨(gt es (i:Int)).node,(gt es (i:Int)).ae,v,(gt es (i:Int)).both&&decide (v>0)⟩:=by unfold iu;rw[<-hv]
   rw[ht]at kZ
   have e1:(i:Int)<A.length:=by omega
   have e2:(i:Int)<(A.set i ⟨(gt es (i:Int)).node,(gt es (i:Int)).ae,v,(gt es (i:Int)).both⟩:List c_).length:=by omega
   cases Ke:(gt es (i:Int)).both with
   |true=>
    have P0:(gt (A.set i ⟨(gt es (i:Int)).node,(gt es (i:Int)).ae,v,(gt es (i:Int)).both⟩) (i:Int)).both=true:=by rw[zr];exact Ke
    have CH:A.set i ⟨(gt es (i:Int)).node,(gt es (i:Int)).ae,v,decide (v>0)⟩=qQ es (i+1):=by rw[<-kZ,Ke,Bool.true_and]
    have p2':=p2 (decide (v>0))
    rw[CH]at p2'
    simp(disch:=omega) only[↓pq,↓pj,ps,pz,↓reduceIte,aj,ak,ap,aq,au,av,aw,ax,ay,sU,uq,sV,ur,hi,e1,g0,<-hv,p1,e2,P0,hl3,p2']
   |false=>
    have P0:(gt (A.set i ⟨(gt es (i:Int)).node,(gt es (i:Int)).ae,v,(gt es (i:Int)).both⟩) (i:Int)).both=false:=by rw[zr];exact Ke
    have CH:A.set i ⟨(gt es (i:Int)).node,(gt es (i:Int)).ae,v,false⟩=qQ es (i+1):=by rw[<-kZ,Ke,Bool.false_and]
    have p2':=p2 false
    rw[CH]at p2'
    simp(disch:=omega) only[↓pq,↓pj,ps,pz,↓reduceIte,aj,ak,ap,aq,au,av,aw,ax,ay,sU,uq,sV,ur,hi,e1,g0,<-hv,p1,e2,P0,p2',dS]
  ·intro q
   have hz:¬((es.length:Int)<es.length):=by omega
   have hE:qQ es es.length=es.map iu:=by unfold qQ;simp
   have hln:Prim.ev .len [.l ((es.map iu).map bS)]=some (ii (es.length:Int)):=by rw[E3,J2]
   simp(disch:=omega) only[↓pq,↓pj,ps,pz,↓reduceIte,aj,ak,ap,aq,au,av,aw,ax,ay,sU,uq,sV,ur,hz,hE,hH,hR,hln]
   exact lT
def acr(es:List c_)(a:Int):List Int:=es.foldl (λc f=>if f.ae=a then(if f.left>0 then c++[f.node]else c)else c) []
theorem acs{c:List Int}(h:c.Pairwise (· < ·)){n:Int}(hn:∀x∈c,x<n):fu c n=c++[n]:=by
 refine GF (B_ h n) (List.pairwise_append.2 ⟨h,List.pairwise_singleton _ _,λx hx y hy=>by rw[List.mem_singleton.1 hy];exact hn x hx⟩) λx=>?_
 rw[g_,List.mem_append,List.mem_singleton]
 exact⟨λh=>h.symm,λh=>h.symm⟩
theorem avo{es:List c_}(h:(es.map ou).Pairwise Dl)(a:Int):acr es a=zL es a:=by
 have:∀(l:List c_) (c:List Int),(l.map ou).Pairwise Dl->c.Pairwise (· < ·)->(∀x∈c,∀f∈l,f.ae=a->x<f.node)->
   l.foldl (λc f=>if f.ae=a then(if f.left>0 then c++[f.node]else c)else c) c=l.foldl (λc f=>if f.ae=a then(if f.left>0 then fu c f.node else c)else c) c:=by
  intro l
  induction l with
  |nil=>intro c _ _ _;rfl
  |cons e l ih=>
   intro c hp hc hx
   rw[List.map_cons,List.pairwise_cons]at hp
   rw[List.foldl_cons,List.foldl_cons]
   by_cases h1:e.ae=a
   ·rw[if_pos h1,if_pos h1]
    by_cases h2:e.left>0
    ·have he:=λx CI=>hx x CI e (.head _) h1
     rw[if_pos h2,if_pos h2,acs hc he]
     refine ih _ hp.2 (by rw[<-acs hc he];exact B_ hc _) λx CI f hf hfa=>?_
     rcases List.mem_append.1 CI with CI|CI
     ·exact hx x CI f (.tail _ hf) hfa
     ·rw[List.mem_singleton.1 CI]
      have:=hp.1 (ou f) (List.mem_map_of_mem hf)
      unfold Dl ou at this
      simp only at this
      omega
    ·rw[if_neg h2,if_neg h2]
     exact ih c hp.2 hc λx CI f hf=>hx x CI f (.tail _ hf)
   ·rw[if_neg h1,if_neg h1]
    exact ih c hp.2 hc λx CI f hf=>hx x CI f (.tail _ hf)
 exact this es [] h .nil (by simp)
theorem avp(id:Int)(es:List c_)(node ae:Int)(t1 t2 t3 t4 t5 t6 t7 t8:T)(h:es.length<=1048576):Pp [ii id,t1,t2,t3,t4,t5,t6,.l (es.map bS),ii node,ii ae,t7,t8]=some (gd ⟨1,id,node,ae,acr es ae,[]⟩):=by
 rw[ap5]
 simp only[MM]
 refine jc es (λi c=>[ii i,.l (c.map aD)]) (λc f=>if f.ae=ae then(if f.left>0 then c++[f.node]else c)else c) (λc=>some (gd ⟨1,id,node,ae,c,[]⟩)) [] (λi c=>c.length<=i) rfl (dR h) (by simp) ?_ ?_
 ·intro i c hi hc
  refine⟨by split<;>(try split)<;>(try simp)<;>omega,λq=>?_⟩
  by_cases k1:(gt es (i:Int)).ae=ae
  ·by_cases k2:(gt es (i:Int)).left>0
   ·simp(disch:=omega) only[↓pq,↓pj,ps,pz,↓reduceIte,aj,ak,ap,aq,au,av,aw,ax,ay,vS_,hi,k1,k2]
   ·simp(disch:=omega) only[↓pq,↓pj,ps,pz,↓reduceIte,aj,ak,ap,aq,au,av,aw,ax,ay,vS_,hi,k1,k2]
  ·simp(disch:=omega) only[↓pq,↓pj,ps,pz,↓reduceIte,aj,ak,ap,aq,au,av,aw,ax,ay,vS_,hi,k1]
 ·intro c q hc
  simp(disch:=omega) only[↓pq,↓pj,ps,pz,↓reduceIte,aj,ak,ap,aq,au,av,aw,ax,ay,vS_,]
  rfl
theorem avq{x:Self}{es:List c_}(h:fb x es)(hn:0<=x.net.n):(es.map ou).Pairwise Dl:=by
 have hA:=Hr x.net.aF x.id x.net.n.toNat
 have hA:mI x.net.aF x.id ((x.net.n.toNat:Int)+1) 0 (pu x.net.aF x.id x.net.n):=hA
 rw[h]
 exact List.pairwise_map.2 hA.1
theorem avr(x:Self)(es:List c_)(h1:x.net.aF.length<=1048576)(h2:x.net.aN.length<=1048576)(h3:x.heard.length<=1048576)(h4:x.store.length<=1048576)(h5:bm x.store)(h6:es.length<=1048576):
  U2 [ii x.id,ii x.bf,ii x.net.n,.l (x.net.aF.map dC),.l (x.net.aN.map ef),.l (x.heard.map aD),.l (x.store.map aB),.l (es.map bS)]=some [ii x.id,ii x.bf,ii x.net.n,.l (x.net.aF.map dC),.l (x.net.aN.map ef),.l (x.heard.map aD),.l (x.store.map aB),.l (es.map bS)]:=by
 have hc:=auQ x h1 h2 h3 h4 h5
 try simp only[ie]at hc
 rw[aoF];simp(disch:=omega) only[↓pq,↓pj,ps,pz,↓reduceIte,aj,ak,ap,aq,au,av,aw,ax,ay,L5,hc]
theorem avs(x:Self)(e:c_)(t1 t2 t3 t4 t5 t7 t8 t9:T)(h4:x.store.length<=1048576)(h5:bm x.store):Pq [ii x.id,t1,t2,t3,t4,t5,.l (x.store.map aB),t7,ii e.node,ii e.ae,t8,t9]=some (gd ⟨2,x.id,e.node,e.ae,[],xu x.store e.ae⟩):=by
 have hh:=auV x.store e.ae h4 h5
 rw[aqb];simp(disch:=omega) only[↓pq,↓pj,ps,pz,↓reduceIte,aj,ak,ap,aq,au,av,aw,ax,ay,MP,hh]
 rfl
theorem avt(y:Self)(es:List c_)(hp:(es.map ou).Pairwise Dl)(h2:es.length<=18)(h4:y.store.length<=1048576)(h5:bm y.store):
  iter (BX Pp Pq (.l (es.map bS)) (ii y.id) (ii y.bf) (ii y.net.n)) rounds [.l [],ii 0,.l (y.net.aF.map dC),.l (y.net.aN.map ef),.l (y.heard.map aD),.l (y.store.map aB),.l (y.net.aF.map dC),.l (y.net.aN.map ef),.l (y.heard.map aD),.l (y.store.map aB)]
   =some [ii y.id,ii y.bf,ii y.net.n,.l (y.net.aF.map dC),.l (y.net.aN.map ef),.l (y.heard.map aD),.l (y.store.map aB),.l (es.map bS),.l ((es.flatMap (uC y es)).map gd)]:=by
 refine(jc es (λi c=>[.l (c.map gd),ii i,.l (y.net.aF.map dC),.l (y.net.aN.map ef),.l (y.heard.map aD),.l (y.store.map aB),.l (y.net.aF.map dC),.l (y.net.aN.map ef),.l (y.heard.map aD),.l (y.store.map aB)]) (λc e=>c++uC y es e)
  (λc=>some [ii y.id,ii y.bf,ii y.net.n,.l (y.net.aF.map dC),.l (y.net.aN.map ef),.l (y.heard.map aD),.l (y.store.map aB),.l (es.map bS),.l (c.map gd)]) [] (λi c=>c.length<=2*i) rfl (dR (by omega)) (by simp) ?_ ?_).trans (by rw[Od,List.nil_append])
 ·intro i c hi hc
  have zq:(uC y es (gt es (i:Int))).length<=2:=by unfold uC;split<;>simp
  refine⟨by rw[List.length_append];omega,λq=>?_⟩
  have hh:=avp y.id es (gt es (i:Int)).node (gt es (i:Int)).ae (ii y.bf) (ii y.net.n) (.l (y.net.aF.map dC)) (.l (y.net.aN.map ef)) (.l (y.heard.map aD)) (.l (y.store.map aB)) (ii (gt es (i:Int)).left) (bb (gt es (i:Int)).both) (by omega)
  rw[avo hp]at hh
  have hs:=avs y (gt es (i:Int)) (ii y.bf) (ii y.net.n) (.l (y.net.aF.map dC)) (.l (y.net.aN.map ef)) (.l (y.heard.map aD)) (.l (es.map bS)) (ii (gt es (i:Int)).left) (bb (gt es (i:Int)).both) h4 h5
  have ml:=KS 1 y.id (gt es (i:Int)).node (gt es (i:Int)).ae (zL es (gt es (i:Int)).ae) []
  have xv:=KS 2 y.id (gt es (i:Int)).node (gt es (i:Int)).ae [] (xu y.store (gt es (i:Int)).ae)
  have lg:Prim.ev (.app false 6) [.l (c.map gd),.l ([(⟨1,y.id,(gt es (i:Int)).node,(gt es (i:Int)).ae,zL es (gt es (i:Int)).ae,[]⟩:bc)].map gd)]=some (.l ((c++[(⟨1,y.id,(gt es (i:Int)).node,(gt es (i:Int)).ae,zL es (gt es (i:Int)).ae,[]⟩:bc)]).map gd)):=Po (by simp;omega)
  have CG:Prim.ev (.app false 6) [.l ((c++[(⟨1,y.id,(gt es (i:Int)).node,(gt es (i:Int)).ae,zL es (gt es (i:Int)).ae,[]⟩:bc)]).map gd),.l ([(⟨2,y.id,(gt es (i:Int)).node,(gt es (i:Int)).ae,[],xu y.store (gt es (i:Int)).ae⟩:bc)].map gd)]=some (.l ((c++[(⟨1,y.id,(gt es (i:Int)).node,(gt es (i:Int)).ae,zL es (gt es (i:Int)).ae,[]⟩:bc)]++[(⟨2,y.id,(gt es (i:Int)).node,(gt es (i:Int)).ae,[],xu y.store (gt es (i:Int)).ae⟩:bc)]).map gd)):=Po (by simp;omega)
  simp only[gd]at hh hs
  unfold uC
  cases iK:(gt es (i:Int)).both with
  |true=>
   rw[iK]at hh hs
   simp(disch:=omega) only[↓pq,↓pj,ps,pz,↓reduceIte,aj,ak,ap,aq,au,av,aw,ax,ay,BX,C',hi,hh,hs,ml,xv,lg,CG,iK]
   simp only[if_true,List.append_assoc,List.cons_append,List.nil_append]
  |false=>
   rw[iK]at hh hs
   simp(disch:=omega) only[↓pq,↓pj,ps,pz,↓reduceIte,aj,ak,ap,aq,au,av,aw,ax,ay,BX,C',hi,hh,ml,lg,iK,dS]
 ·intro c q hc
  simp(disch:=omega) only[↓pq,↓pj,ps,pz,↓reduceIte,aj,ak,ap,aq,au,av,aw,ax,ay,BX,C',]
theorem avu(n:Node)(h1:n.self.net.aF.length<=1048576)(h2:n.self.net.aN.length<=1048576)(h3:n.self.heard.length<=1048576)(h4:n.self.store.length<=1048576)(h5:bm n.self.store)(h6:n.dD.length<=1048576):
  Xd (iQ n)=some (iQ (ri n).1++[.l ((ri n).2.map gd)]):=by
 obtain⟨x,es⟩:=n
 simp only at h1 h2 h3 h4 h5 h6
 simp only[iQ]
 have lU:=avr x es h1 h2 h3 h4 h5 h6
 have dQ:=asi x.id x.bf x.net.n x.net.aF x.net.aN x.heard x.store es h1 h2 h3 h4 h5 h6
 rw[show(⟨⟨x.id,x.bf,⟨x.net.n,x.net.aF,x.net.aN⟩,x.heard,x.store⟩,es⟩:Node)=⟨x,es⟩ from rfl]at dQ
 have b1:Prim.ev (.lit 6 []) []=some (.l []):=rfl
 rw[aqd]
 cases hk:lF ⟨x,es⟩with
 |false=>
  rw[hk]at dQ
  unfold ri
  rw[if_neg (by rw[hk];decide)]
  simp(disch:=omega) only[↓pq,↓pj,ps,pz,↓reduceIte,aj,ak,ap,aq,au,av,aw,ax,ay,BX,C',kz_,lU,dQ,b1,dS]
  rfl
 |true=>
  rw[hk]at dQ
  obtain⟨hs,_,wL⟩:=Iu hk
  simp only at hs wL
  have hN:=wh (pB hs).1
  have acu:((es.map iu).map ou).Pairwise Dl:=avq (OQ (CD hk)) (by show 0<=x.net.n;omega)
  unfold ri
  rw[if_pos hk]
  unfold qm
  simp only
  have uP:=jt_ (es.map iu)
  have J2:(es.map iu).length=es.length:=List.length_map ..
  obtain⟨y1,y2,y3,y4,y5,y6⟩:=abX (x:={x with heard:=lE (es.map iu)}) h4 h5 (by show(lE (es.map iu)).length<=_;omega)
  have hR:=auq {x with heard:=lE (es.map iu)} h1 h2 (by show(lE (es.map iu)).length<=_;omega) h4 h5
  have hH:=aaJ (es.map iu) (by omega)
  generalize nv {x with heard:=lE (es.map iu)}=p at hR y1 y2 y3 y4 y5 y6
  obtain⟨y,l⟩:=p
  simp only[ie,List.cons_append,List.nil_append]at hR y1 y2
  have lT:=avt y (es.map iu) acu (by omega) y1 y2
  simp(disch:=omega) only[↓pq,↓pj,ps,pz,↓reduceIte,aj,ak,ap,aq,au,av,aw,ax,ay,BX,C',kz_,lU,dQ,b1]
  refine Dd (λi=>[ii (i:Int),.l ((qQ es i).map bS)]) es.length rfl (dR (by omega)) ?_ ?_
  ·intro i hi q
   have dl:i<es.length:=by omega
   have hL:=OH es i
   have g0:=abY dl
   have OG:0<=(gt es (i:Int)).left∧(gt es (i:Int)).left<=3:=ab0 hk dl
   have kZ:=abZ dl
   generalize hA:qQ es i=A at*
   have e1:(i:Int)<A.length:=by omega
   generalize hE:gt es (i:Int)=e at*
   by_cases c1:e.left>0
   ·have p1:Prim.ev (.put true 4 2 1) [.l (A.map bS),ii (i:Int),ii (e.left-1)]=some (.l ((A.set i ⟨e.node,e.ae,e.left-1,e.both⟩).map bS)):=by
     have:=Ca (enc:=bS) (sc:=true) (w:=4) (off:=2) (m:=1) (l:=A) (n:=(i:Int)) (vs:=[ii (e.left-1)]) (x:=⟨e.node,e.ae,e.left-1,e.both⟩) (by omega) (by omega) (λ_=>rfl) (by decide) rfl rfl (by rw[g0];rfl)
     rw[Int.toNat_natCast]at this
     exact this
    have zr:gt (A.set i ⟨e.node,e.ae,e.left-1,e.both⟩) (i:Int)=⟨e.node,e.ae,e.left-1,e.both⟩:=by
     have:=Cd (l:=A) (i:=(i:Int)) (j:=(i:Int)) (x:=⟨e.node,e.ae,e.left-1,e.both⟩) (by omega) (by omega) (by omega)
     rw[if_pos rfl,Int.toNat_natCast]at this
     exact this
    have hl3:(gt (A.set i ⟨e.node,e.ae,e.left-1,e.both⟩) (i:Int)).left=e.left-1:=by rw[zr]
    have e2:(i:Int)<(A.set i ⟨e.node,e.ae,e.left-1,e.both⟩:List c_).length:=by rw[List.length_set];omega
    by_cases c2:e.left-1=0
    ·have p2:Prim.ev (.put true 4 3 1) [.l ((A.set i ⟨e.node,e.ae,e.left-1,e.both⟩).map bS),ii (i:Int),bb false]=some (.l ((A.set i ⟨e.node,e.ae,e.left-1,false⟩).map bS)):=by
      have:=Ca (enc:=bS) (sc:=true) (w:=4) (off:=3) (m:=1) (l:=A.set i ⟨e.node,e.ae,e.left-1,e.both⟩) (n:=(i:Int)) (vs:=[bb false]) (x:=⟨e.node,e.ae,e.left-1,false⟩) (by omega) (by omega) (λ_=>rfl) (by decide) rfl rfl (by rw[zr];rfl)
      rw[Int.toNat_natCast,List.set_set]at this
      exact this
     have ht:iu e=⟨e.node,e.ae,e.left-1,false⟩:=by
      unfold iu
      rw[c2]
      simp
     rw[ht]at kZ
     rw[kZ]at p2
     simp(disch:=omega) only[↓pq,↓pj,ps,pz,↓reduceIte,aj,ak,ap,aq,au,av,aw,ax,ay,BX,C',hi,e1,g0,hE,c1,p1,e2,hl3,eq_true c2,p2]
    ·have ht:iu e=⟨e.node,e.ae,e.left-1,e.both⟩:=by
      unfold iu
      rw[if_neg (by omega)]
      have:decide (e.left-1>0)=true:=decide_eq_true (by omega)
      rw[this,Bool.and_true]
     rw[ht]at kZ
     rw[kZ]at p1 hl3 e2
     simp(disch:=omega) only[↓pq,↓pj,ps,pz,↓reduceIte,aj,ak,ap,aq,au,av,aw,ax,ay,BX,C',hi,e1,g0,hE,c1,p1,e2,hl3,c2]
   ·have c0:e.left=0:=by omega
    have p2:Prim.ev (.put true 4 3 1) [.l (A.map bS),ii (i:Int),bb false]=some (.l ((A.set i ⟨e.node,e.ae,0,false⟩).map bS)):=by
     have:=Ca (enc:=bS) (sc:=true) (w:=4) (off:=3) (m:=1) (l:=A) (n:=(i:Int)) (vs:=[bb false]) (x:=⟨e.node,e.ae,0,false⟩) (by omega) (by omega) (λ_=>rfl) (by decide) rfl rfl (by rw[g0,<-c0];rfl)
     rw[Int.toNat_natCast]at this
     exact this
    have ht:iu e=⟨e.node,e.ae,0,false⟩:=by
     unfold iu
     rw[c0]
     simp
    rw[ht]at kZ
    rw[kZ]at p2
    simp(disch:=omega) only[↓pq,↓pj,ps,pz,↓reduceIte,aj,ak,ap,aq,au,av,aw,ax,ay,BX,C',hi,e1,g0,hE,c0,p2]
  ·intro q
   have hz:¬((es.length:Int)<es.length):=by omega
   have hEe:qQ es es.length=es.map iu:=by unfold qQ;simp
   have hln:Prim.ev .len [.l ((es.map iu).map bS)]=some (ii (es.length:Int)):=by rw[E3,J2]
   simp(disch:=omega) only[↓pq,↓pj,ps,pz,↓reduceIte,aj,ak,ap,aq,au,av,aw,ax,ay,BX,C',hz,hEe,hH,hR,hln]
   exact lT
theorem kM{n:Int}(h:-1000000<=n)(h':n<=1000000):jh n:=jh.mk (by omega) (by omega)
theorem zi{α:Type}{f:α->Nat}(hf:∀x,f x=0):∀l:List α,eJ f l=l.length
 | []=>rfl
 |a::l=>by simp only[eJ,zi hf l,hf a,List.length_cons];omega
theorem acv{s:List ah}(h:dX s=true):(∀r∈s,yI r)∧eJ zw s<=1050:=by
 have hr:=Hm (by unfold dX at h;simp only[bk]at h;exact h.2:eo fY eQ s=true)
 have h1:=aur λr hh=>(abV (hr r hh)).2
 have:=P' h
 exact⟨λr hh=>(abV (hr r hh)).1,by omega⟩
theorem acw{p:bc}(h:Hs p=true):yK p∧Fb p<=1100:=by
 obtain⟨h1,h2,h3⟩:=au9 h
 rw[acg]at h
 unfold Ht at h
 simp only[bk,aW]at h
 obtain⟨s1,s2⟩:=acv h.2.2.1.2
 have hu:=h.2.1
 unfold zg at hu
 have hi:∀x∈p.heard,tZ x:=λx hx=>by
  have:=aW.1 (Hm hu x hx)
  exact kM (by omega) (by omega)
 refine⟨⟨kM (by omega) (by omega),kM (by omega) (by omega),kM (by omega) (by omega),kM (by omega) (by omega),⟨by unfold maxLen;omega,hi⟩,⟨by unfold maxLen;omega,s1⟩⟩,?_⟩
 unfold Fb
 rw[zi (f:=t_) (λ_=>rfl)]
 omega
theorem avv{l:List bc}(h:∀p∈l,Hs p=true)(hl:l.length<=36):(∀p∈l,yK p)∧eJ Fb l<=40000:=by
 refine⟨λp hp=>(acw (h p hp)).1,?_⟩
 have:∀m:List bc,(∀p∈m,Hs p=true)->eJ Fb m<=1101*m.length:=by
  intro m
  induction m with
  |nil=>intro _;simp[eJ]
  |cons a m ih=>
   intro hm
   have h1:=(acw (hm a (.head _))).2
   have h2:=ih λp hp=>hm p (.tail _ hp)
   simp only[eJ,List.length_cons]
   omega
 have:=this l h
 omega
theorem avw{n:Node}(h:lF n=true):ua n∧zx n<=2000:=by
 obtain⟨⟨id,bt,⟨m,ls,ths⟩,hd,st⟩,es⟩:=n
 obtain⟨hs,hle,he⟩:=Iu h
 obtain⟨hN,gS,iK,jg,tM,cm⟩:=pB hs
 obtain⟨hm,hl,ht,hA,hT⟩:=wh hN
 simp only at hs hle he hN gS iK jg tM cm hm hl ht hA hT
 obtain⟨s1,s2⟩:=acv cm
 have hAt:=CD h
 have OG:=aco h
 have hh:lE es=hd:=by
  unfold lF at h
  simp only[bk]at h
  exact iX.1 h.2.2
 have uP:=jt_ es
 rw[hh]at uP
 have e1:∀x∈ls,E7 x:=λx hx=>by
  have:=Hm hA x hx
  simp only[mT,bk,aW,decide_eq_true_eq]at this
  exact⟨kM (by omega) (by omega),kM (by omega) (by omega),kM (by omega) (by omega),kM (by omega) (by omega)⟩
 have e2:∀x∈ths,E8 x:=λx hx=>by
  have:=Hm hT x hx
  simp only[vZ,bk,aW]at this
  exact⟨kM (by omega) (by omega),kM (by omega) (by omega),kM (by omega) (by omega)⟩
 have e5:∀x∈es,Bo x:=λx hx=>by
  have h1:=Hu hN hAt (List.mem_map_of_mem (f:=ou) hx)
  have h2:=(OG x hx).1
  exact⟨kM (by omega) (by omega),kM (by omega) (by omega),kM (by omega) (by omega)⟩
 have e3:∀x∈hd,tZ x:=by
  rw[<-hh]
  have:∀(l:List c_) (c:List Int),(∀e∈l,Bo e)->(∀x∈c,tZ x)->∀x∈l.foldl B3 c,tZ x:=by
   intro l
   induction l with
   |nil=>intro c _ h;exact h
   |cons a l ih=>
    intro c hl hc
    rw[List.foldl_cons]
    refine ih _ (λe he=>hl e (.tail _ he)) λx hx=>?_
    unfold B3 at hx
    split at hx
    ·rcases List.mem_append.1 hx with hx|hx
     ·exact hc x hx
     ·have:=hl a (.head _)
      simp only[List.mem_cons,List.not_mem_nil,or_false]at hx
      rcases hx with rfl|rfl
      ·exact this.1
      ·exact this.2.1
    ·exact hc x hx
  exact this es [] e5 (by simp)
 have zq:=P' cm
 refine⟨⟨kM (by show _<=id;omega) (by show id<=_;omega),kM (by show _<=bt;omega) (by show bt<=_;omega),kM (by show _<=m;omega) (by show m<=_;omega),⟨by unfold maxLen;show ls.length<=_;omega,e1⟩,⟨by unfold maxLen;show ths.length<=_;omega,e2⟩,⟨by unfold maxLen;show hd.length<=_;omega,e3⟩,⟨by unfold maxLen;show st.length<=_;omega,s1⟩,⟨by unfold maxLen;show es.length<=_;omega,e5⟩⟩,?_⟩
 unfold zx
 show eJ yG ls+eJ yH ths+eJ t_ hd+eJ zw st+eJ yJ es<=_
 rw[zi (f:=t_) (λ_=>rfl),zi (f:=yJ) (λ_=>rfl),zi (f:=yG) (λ_=>rfl),zi (f:=yH) (λ_=>rfl)]
 omega
theorem OR{S:Nat->af}{R:Nat}{K:List af}{ρ:List T}{k:PL}{v:Value}:PL.den S R K ρ (.join k (.go 0 [.k v]))=PL.den S R K (ρ++[T.c v]) k:=rfl
theorem qn{S:Nat->af}{out:Option (List T)}{K:List af}(es:List Ty)(w c s p n:Nat){rest:PL}{ρ:List T}{xs:List (List T)}(hF:Pm S es.length es 0 (tU es w 0))(hl:es.length<=64)(hm:lW es=true)
  (hp:ρ.length=p)(hs:s<p)(ht:ρ.getD s T.cp=.l xs)(hc:Lf.ev ρ (.a c)=.c (.int .i64 (n:Int)))(hw:∀r∈xs,cV es r)(hb:gE xs<=1048576)(hn:n+64*gE xs<=1099511627776)
  (hk:∀f:af,PL.den S rounds (f::K) (ρ++[T.c (.int .i64 ((cW (cT es) n xs).1:Int)),T.c (.int .i64 (xs.length:Int)),.l (cW (cT es) n xs).2,T.c (.int .i64 (xs.length:Int)),T.c (.bool false)]) rest=out):
  PL.den S rounds K ρ (Pl (tU es w 0) [] (.a c) s p λ_ _ _=>rest)=out:=aha hF hl hm hp hs ht hc hw hb hn hk
theorem rk(es:List Ty)(hm:lW es=true)(hl:es.length<=63){xs:List (List T)}(hw:∀r∈xs,cV es r)(n:Nat):n<=(cW (cT es) n xs).1∧(cW (cT es) n xs).1<=n+64*gE xs:=
 ET (g:=cT es) (xs:=xs) (λm r hr=>by
  have:=yx es m r hm (hw r hr)
  omega) n
theorem Qa{F:af}{es:List Ty}(hF:C0 F [.sl es])(n:Nat){xs:List (List T)}(hl:xs.length<=maxLen)(hw:∀r∈xs,cV es r)(hb:gE xs<=1048576)(hn:n<=1000000000):
  F [.l (cW (cT es) n xs).2,.c (.int .i64 (n:Int))]=some [.c (.int .i64 ((cW (cT es) n xs).1:Int))]:=by
 have hbb:lj [T.l xs]<=1048576:=by rw[eU,fG,fy];omega
 have e:=hF n [.l xs] (TB hl hw) hbb (by omega)
 rw[Be,HU,Bf]at e
 exact e
theorem avy(a b c:Int)(n0:Nat){l1 l2 l3 l4:List (List T)}(h0:n0<=1000)
  (m1:l1.length<=maxLen)(w1:∀r∈l1,cV qw r)(m2:l2.length<=maxLen)(w2:∀r∈l2,cV qy r)(m3:l3.length<=maxLen)(w3:∀r∈l3,cV ji r)(m4:l4.length<=maxLen)(w4:∀r∈l4,cV jj r)
  (hb:gE l1+gE l2+gE l3+gE l4<=1048576){n1 n2 n3 n4:Nat}(q1:n1=(cW (cT qw) n0 l1).1)(q2:n2=(cW (cT qy) n1 l2).1)(q3:n3=(cW (cT ji) n2 l3).1)(q4:n4=(cW (cT jj) n3 l4).1):
  ZU [.c (.int .i64 a),.c (.int .i64 b),.c (.int .i64 c),.l (cW (cT qw) n0 l1).2,.l (cW (cT qy) n1 l2).2,.l (cW (cT ji) n2 l3).2,.l (cW (cT jj) n3 l4).2,.c (.int .i64 (n0:Int))]=some [.c (.int .i64 (n4:Int))]:=by
 have b1:=rk qw rfl (by decide) w1 n0
 rw[<-q1]at b1
 have b2:=rk qy rfl (by decide) w2 n1
 rw[<-q2]at b2
 have b3:=rk ji rfl (by decide) w3 n2
 rw[<-q3]at b3
 have b4:=rk jj rfl (by decide) w4 n3
 rw[<-q4]at b4
 have e1:=Qa (es:=qw) aos n0 m1 w1 (by omega) (by omega)
 rw[<-q1]at e1
 have e2:=Qa (es:=qy) aot n1 m2 w2 (by omega) (by omega)
 rw[<-q2]at e2
 have e3:=Qa (es:=ji) Z2 n2 m3 w3 (by omega) (by omega)
 rw[<-q3]at e3
 have e4:=Qa (es:=jj) Z3 n3 m4 w4 (by omega) (by omega)
 rw[<-q4]at e4
 have z1:¬((n1:Int)<0):=by omega
 have z2:¬((n2:Int)<0):=by omega
 have z3:¬((n3:Int)<0):=by omega
 have z4:¬((n4:Int)<0):=by omega
 have avz:LC 210=F4:=rfl
 have avA:LC 211=kW_:=rfl
 have eN:BU [.c (.int .i64 c),.l (cW (cT qw) n0 l1).2,.l (cW (cT qy) n1 l2).2,.c (.int .i64 (n0:Int))]=some [.c (.int .i64 (n2:Int))]:=by
  simp(implicitDefEqProofs:=false) only[BU,nX,pb,fS,avz,avA,e1,e2,z1,z2]
 have avB:F5 123=ZS:=rfl
 have avC:F5 122=ZO:=rfl
 have avD:F5 145=BU:=rfl
 simp(implicitDefEqProofs:=false) only[ZU,mw,pb,fS,avB,avC,avD,eN,e3,e4,z2,z3,z4]
theorem avE(a b c:Int)(n0:Nat){l1 l2 l3 l4 l5:List (List T)}(h0:n0<=1000)
  (m1:l1.length<=maxLen)(w1:∀r∈l1,cV qw r)(m2:l2.length<=maxLen)(w2:∀r∈l2,cV qy r)(m3:l3.length<=maxLen)(w3:∀r∈l3,cV ji r)(m4:l4.length<=maxLen)(w4:∀r∈l4,cV jj r)(m5:l5.length<=maxLen)(w5:∀r∈l5,cV lm r)
  (hb:gE l1+gE l2+gE l3+gE l4<=1048576)(hb5:gE l5<=1048576){n1 n2 n3 n4 n5:Nat}(q1:n1=(cW (cT qw) n0 l1).1)(q2:n2=(cW (cT qy) n1 l2).1)(q3:n3=(cW (cT ji) n2 l3).1)(q4:n4=(cW (cT jj) n3 l4).1)(q5:n5=(cW (cT lm) n4 l5).1):
  Px [.c (.int .i64 a),.c (.int .i64 b),.c (.int .i64 c),.l (cW (cT qw) n0 l1).2,.l (cW (cT qy) n1 l2).2,.l (cW (cT ji) n2 l3).2,.l (cW (cT jj) n3 l4).2,.l (cW (cT lm) n4 l5).2,.c (.int .i64 (n0:Int))]=some [.c (.int .i64 (n5:Int))]:=by
 have e1:=avy a b c n0 h0 m1 w1 m2 w2 m3 w3 m4 w4 hb q1 q2 q3 q4
 have b1:=rk qw rfl (by decide) w1 n0
 rw[<-q1]at b1
 have b2:=rk qy rfl (by decide) w2 n1
 rw[<-q2]at b2
 have b3:=rk ji rfl (by decide) w3 n2
 rw[<-q3]at b3
 have b4:=rk jj rfl (by decide) w4 n3
 rw[<-q4]at b4
 have b5:=rk lm rfl (by decide) w5 n4
 rw[<-q5]at b5
 have e2:=Qa (es:=lm) aov n4 m5 w5 hb5 (by omega)
 rw[<-q5]at e2
 have z4:¬((n4:Int)<0):=by omega
 have z5:¬((n5:Int)<0):=by omega
 have avF:LF 120=ZU:=rfl
 have avG:LF 121=F6:=rfl
 simp(implicitDefEqProofs:=false) only[Px,my,pb,fS,avF,avG,e1,e2,z4,z5]
theorem avH{n:Node}{r:Node×List bc}(h:Iv n r):ua r.1∧zx r.1<=1048576∧(∀p∈r.2,yK p)∧eJ Fb r.2<=40000∧r.2.length<=36:=by
 obtain⟨h1,h2⟩:=avw h.ok
 obtain⟨h3,h4⟩:=avv (λp hp=>(h.says p hp).ok) h.few
 exact⟨h1,by omega,h3,h4,h.few⟩
theorem avI{n:Node}(h:ua n)(hb:zx n<=1048576):ua (n,([]:List bc)).1∧zx (n,([]:List bc)).1<=1048576∧(∀p∈(n,([]:List bc)).2,yK p)∧eJ Fb (n,([]:List bc)).2<=40000∧(n,([]:List bc)).2.length<=36:=
 ⟨h,hb,by simp,by simp[eJ],by simp⟩
theorem avJ{n:Node}(h:ua n)(hb:zx n<=1048576):ua (ri n).1∧zx (ri n).1<=1048576∧(∀p∈(ri n).2,yK p)∧eJ Fb (ri n).2<=40000∧(ri n).2.length<=36:=by
 cases hk:lF n with
 |true=>exact avH (avj hk).1
 |false=>
  have e:ri n=(n,[]):=by unfold ri;rw[if_neg (by rw[hk];decide)]
  rw[e]
  exact avI h hb
def acx:List Ty:=Fa
set_option maxRecDepth 100000 in
set_option maxHeartbeats 4000000 in
theorem avK(ts:List T)(h0:cV acx ts):ZX ts=some [.c (.bool true)]:=by
 have h:cV Fa ts:=h0
 obtain⟨x,rfl,hx⟩:=ake ts h
 have s22:F7 22=ZA:=rfl
 have s30:F7 30=K3:=rfl
 have s31:F7 31=Xd:=rfl
 have s32:F7 32=Bu:=rfl
 have s33:F7 33=BT:=rfl
 have s34:F7 34=F3:=rfl
 have s37:F7 37=Px:=rfl
 have s38:F7 38=jU_:=rfl
 obtain⟨n,e1,b1,c1⟩:=anQ _ 1048576 h (by omega) (by omega)
 rw[wW]at c1
 simp only[iQ,List.cons_append,List.nil_append]at e1⊢
 by_cases q:n<0
 ·simp(implicitDefEqProofs:=false) only[ZX,eS,pb,fS,s30,e1,q]
 have c2:=c1 (by omega)
 have hb:zx x<=1048576:=by omega
 have e2:=an9 _ h (by rw[wW];exact hb)
 have e3:=Z1 _ h (by rw[wW];exact hb)
 simp only[iQ,List.cons_append,List.nil_append]at e2 e3
 obtain⟨oN,bN,oP,bP,lP⟩:=avJ hx hb
 have HI:=hb
 unfold zx at hb
 have h1:=yE (f:=yG) x.self.net.aF
 have h2:=yE (f:=yH) x.self.net.aN
 have h3:=yE (f:=t_) x.self.heard
 have h4:=yE (f:=zw) x.self.store
 have h5:=yE (f:=yJ) x.dD
 have a1:=avm x (by omega) (by omega) (by omega) (by omega) (aaE (by omega)) (by omega)
 have a2:=avu x (by omega) (by omega) (by omega) (by omega) (aaE (by omega)) (by omega)
 generalize(ri x).1=y at a1 a2 oN bN
 generalize(ri x).2=l at a1 a2 oP bP lP
 have e4:=Z1 _ (akf y oN) (by rw[Go.Proofs.YtjimmglpkndemaaGreatC.wW];exact bN)
 simp only[iQ,List.cons_append,List.nil_append]at a1 a2 e4
 have vP:=rX akD oP
 have tP:=rY akE l
 have hwP:cV [.sl vU] [.l (l.map gd)]:=TB (by rw[List.length_map];unfold maxLen;omega) vP
 have hbP:lj [T.l (l.map gd)]<=1048576:=by rw[eU,fG,fy,tP];omega
 have e5:=aor _ hwP hbP
 simp only[List.cons_append,List.nil_append]at e5
 obtain⟨_,_,_,⟨_,o1⟩,⟨_,o2⟩,⟨_,o3⟩,⟨_,o4⟩,⟨_,o5⟩⟩:=hx
 obtain⟨_,_,_,⟨j1,p1⟩,⟨j2,p2⟩,⟨j3,p3⟩,⟨j4,p4⟩,⟨j5,p5⟩⟩:=oN
 have w1:=rX KI o1
 have v1:=rX KI p1
 have k1:=rY KJ x.self.net.aF
 have t1:=rY KJ y.self.net.aF
 have w2:=rX KK o2
 have v2:=rX KK p2
 have k2:=rY KL x.self.net.aN
 have t2:=rY KL y.self.net.aN
 have w3:=rX E5 o3
 have v3:=rX E5 p3
 have k3:=rY E6 x.self.heard
 have t3:=rY E6 y.self.heard
 have w4:=rX E_ o4
 have v4:=rX E_ p4
 have k4:=rY E' x.self.store
 have t4:=rY E' y.self.store
 have w5:=rX KO o5
 have v5:=rX KO p5
 have k5:=rY KQ x.dD
 have t5:=rY KQ y.dD
 unfold zx at bN
 obtain⟨n1,qn1⟩:∃zz,zz=(cW (cT qw) 1 (x.self.net.aF.map dC)).1:=⟨_,rfl⟩
 have mn1:=rk qw rfl (by decide) w1 1
 rw[<-qn1,k1]at mn1
 obtain⟨n2,qn2⟩:∃zz,zz=(cW (cT qy) n1 (x.self.net.aN.map ef)).1:=⟨_,rfl⟩
 have mn2:=rk qy rfl (by decide) w2 n1
 rw[<-qn2,k2]at mn2
 obtain⟨n3,qn3⟩:∃zz,zz=(cW (cT ji) n2 (x.self.heard.map aD)).1:=⟨_,rfl⟩
 have mn3:=rk ji rfl (by decide) w3 n2
 rw[<-qn3,k3]at mn3
 obtain⟨n4,qn4⟩:∃zz,zz=(cW (cT jj) n3 (x.self.store.map aB)).1:=⟨_,rfl⟩
 have mn4:=rk jj rfl (by decide) w4 n3
 rw[<-qn4,k4]at mn4
 obtain⟨n5,qn5⟩:∃zz,zz=(cW (cT lm) n4 (x.dD.map bS)).1:=⟨_,rfl⟩
 have mn5:=rk lm rfl (by decide) w5 n4
 rw[<-qn5,k5]at mn5
 obtain⟨r1,qr1⟩:∃zz,zz=(cW (cT qw) 1 (y.self.net.aF.map dC)).1:=⟨_,rfl⟩
 have mr1:=rk qw rfl (by decide) v1 1
 rw[<-qr1,t1]at mr1
 obtain⟨r2,qr2⟩:∃zz,zz=(cW (cT qy) r1 (y.self.net.aN.map ef)).1:=⟨_,rfl⟩
 have mr2:=rk qy rfl (by decide) v2 r1
 rw[<-qr2,t2]at mr2
 obtain⟨r3,qr3⟩:∃zz,zz=(cW (cT ji) r2 (y.self.heard.map aD)).1:=⟨_,rfl⟩
 have mr3:=rk ji rfl (by decide) v3 r2
 rw[<-qr3,t3]at mr3
 obtain⟨r4,qr4⟩:∃zz,zz=(cW (cT jj) r3 (y.self.store.map aB)).1:=⟨_,rfl⟩
 have mr4:=rk jj rfl (by decide) v4 r3
 rw[<-qr4,t4]at mr4
 obtain⟨r5,qr5⟩:∃zz,zz=(cW (cT lm) r4 (y.dD.map bS)).1:=⟨_,rfl⟩
 have mr5:=rk lm rfl (by decide) v5 r4
 rw[<-qr5,t5]at mr5
 obtain⟨r6,qr6⟩:∃zz,zz=(cW (cT vU) r5 (l.map gd)).1:=⟨_,rfl⟩
 have mr6:=rk vU rfl (by decide) vP r5
 rw[<-qr6,tP]at mr6
 have e6:=avE y.self.id y.self.bf y.self.net.n 1 (by omega) (by rw[List.length_map];exact j1) v1 (by rw[List.length_map];exact j2) v2 (by rw[List.length_map];exact j3) v3 (by rw[List.length_map];exact j4) v4 (by rw[List.length_map];exact j5) v5 (by rw[t1,t2,t3,t4];omega) (by rw[t5];omega) qr1 qr2 qr3 qr4 qr5
 have e6:Px [ii y.self.id,ii y.self.bf,ii y.self.net.n,.l (cW (cT qw) 1 (y.self.net.aF.map dC)).2,.l (cW (cT qy) r1 (y.self.net.aN.map ef)).2,.l (cW (cT ji) r2 (y.self.heard.map aD)).2,.l (cW (cT jj) r3 (y.self.store.map aB)).2,.l (cW (cT lm) r4 (y.dD.map bS)).2,.c (.int .i64 1)]=some [.c (.int .i64 (r5:Int))]:=e6
 have e7:=Qa (es:=vU) aow r5 (by rw[List.length_map];unfold maxLen;omega) vP (by rw[tP];omega) (by omega)
 rw[<-qr6]at e7
 have z1:¬((n5:Int)<0):=by omega
 have z2:¬((r5:Int)<0):=by omega
 have z3:¬((r6:Int)<0):=by omega
 simp(implicitDefEqProofs:=false) only[ZX,eS,pb,fS,OR,s22,s30,s31,s32,s33,s34,s37,s38,e1,e2,e3,a1,a2,e4,e5,q]
 refine qn qw 4 58 30 59 1 (yA qw 0 rfl 4) (by decide) rfl rfl (by omega) rfl rfl w1 (by omega) (by omega) λf=>?_
 rw[<-qn1]
 refine qn qy 4 59 31 64 n1 (yA qy 0 rfl 4) (by decide) rfl rfl (by omega) rfl rfl w2 (by omega) (by omega) λf=>?_
 rw[<-qn2]
 refine qn ji 1 64 32 69 n2 (yA ji 0 rfl 1) (by decide) rfl rfl (by omega) rfl rfl w3 (by omega) (by omega) λf=>?_
 rw[<-qn3]
 refine qn jj 8 69 33 74 n3 (yA jj 0 rfl 8) (by decide) rfl rfl (by omega) rfl rfl w4 (by omega) (by omega) λf=>?_
 rw[<-qn4]
 refine qn lm 4 74 34 79 n4 (yA lm 0 rfl 4) (by decide) rfl rfl (by omega) rfl rfl w5 (by omega) (by omega) λf=>?_
 rw[<-qn5]
 simp(implicitDefEqProofs:=false) only[pb,fS,OR,s22,s30,s31,s32,s33,s34,s37,s38,e4,e5,z1]
 refine qn qw 4 89 38 90 1 (yA qw 0 rfl 4) (by decide) rfl rfl (by omega) rfl rfl v1 (by omega) (by omega) λf=>?_
 rw[<-qr1]
 refine qn qy 4 90 39 95 r1 (yA qy 0 rfl 4) (by decide) rfl rfl (by omega) rfl rfl v2 (by omega) (by omega) λf=>?_
 rw[<-qr2]
 refine qn ji 1 95 40 100 r2 (yA ji 0 rfl 1) (by decide) rfl rfl (by omega) rfl rfl v3 (by omega) (by omega) λf=>?_
 rw[<-qr3]
 refine qn jj 8 100 41 105 r3 (yA jj 0 rfl 8) (by decide) rfl rfl (by omega) rfl rfl v4 (by omega) (by omega) λf=>?_
 rw[<-qr4]
 refine qn lm 4 105 42 110 r4 (yA lm 0 rfl 4) (by decide) rfl rfl (by omega) rfl rfl v5 (by omega) (by omega) λf=>?_
 rw[<-qr5]
 refine qn vU 6 110 43 115 r5 (yA vU 0 rfl 6) (by decide) rfl rfl (by omega) rfl rfl vP (by omega) (by omega) λf=>?_
 rw[<-qr6]
 simp(implicitDefEqProofs:=false) only[pb,fS,OR,s22,s30,s31,s32,s33,s34,s37,s38,e2,a1,e4,e5,e6,e7,z2,z3]
end Go.Proofs.YtjimmglpkndemaaGreatC
