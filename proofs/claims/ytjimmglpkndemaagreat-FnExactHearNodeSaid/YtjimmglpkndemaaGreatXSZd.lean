/- What a node renews, by the other program; new nodes. Conditions: none. -/
import Derived.Test.YtjimmglpkndemaaGreatXMX
import Derived.Test.YtjimmglpkndemaaGreatKe
import Derived.Test.YtjimmglpkndemaaGreatXSL
namespace Go.Proofs.YtjimmglpkndemaaGreatC
attribute [local irreducible] jp
open Int renaming reduceLE -> aj, reduceLT -> ak, reduceEq -> ap, reduceGT -> aq, reduceGE -> au, reduceAdd -> av, reduceSub -> aw, reduceMul -> ax, reduceNeg -> ay
set_option linter.unusedVariables false
set_option linter.unusedSimpArgs false
def vF(k:Nat)(c:List ah):Prop:=Fit k c∧∀y∈c,1<=y.seq
theorem vF.put{k:Nat}{c:List ah}(h:vF k c){r:ah}(hr:r.aV.length<=1048576)(hq:1<=r.seq):vF (k+1) (cM c r):=
 ⟨h.1.put hr,λy hy=>by
  rcases AY hy with rfl|hy
  ·exact hq
  ·exact h.2 y hy⟩
theorem vF.mono{k k':Nat}{c:List ah}(h:vF k c)(hk:k<=k'):vF k' c:=⟨h.1.mono hk,h.2⟩
def Ea(x:Self)(l:List ah):List T:=
 if l.all (λr=>decide (r.seq<=100000))=true∧(eM same x.store l).length<=150 then iB {x with store:=eM same x.store l}++[.l (l.map ai)]else iB x++[.l []]
theorem aeU(x:Self)(h1:x.net.aE.length<=1048576)(h2:x.net.aM.length<=1048576)(h3:x.heard.length<=1048576)(h4:x.store.length<=1048576)(h5:aR x.store):
  C3 [ii x.id,ii x.bh,ii x.net.n,.l (x.net.aE.map dB),.l (x.net.aM.map ed),.l (x.heard.map aB),.l (x.store.map ai)]=some (iB (jN x).1++[.l ((jN x).2.map ai)]):=by
 have hS:=Iz x.id x.bh x.net.n x.net.aE x.net.aM x.heard x.store h1 h2 h3 h4 h5
 rw[show(⟨x.id,x.bh,⟨x.net.n,x.net.aE,x.net.aM⟩,x.heard,x.store⟩:Self)=x from rfl]at hS
 have hC:=axv x h1 h2 h3 h4 h5
 simp only[iB]at hC
 cases hk:kf x with
 |false=>
  rw[hk]at hS
  rw[show jN x=(x,[]) from by unfold jN;rw[if_neg (by rw[hk];decide)]]
  rw[ads];simp(disch:=omega) only[↓pQ,pS,↓reduceIte,aj,ak,ap,aq,au,av,aw,ax,ay,vZ,v8,v9,Ig,hS,hC,dh]
  rfl
 |true=>
  rw[hk]at hS
  rw[show jN x=wm x (nk x (rF x.store x.id (fJ x))) from by unfold jN;rw[if_pos hk],<-axo hk]
  obtain⟨hN,gG,ki,jy,ua,cf⟩:=qi hk
  obtain⟨n1,hl,ht,hA,hT⟩:=yE hN
  have hW:=axg x.id x.bh x.net.n x.net.aE x.net.aM x.heard x.store h1 h2 h3 h4 h5 hk
  rw[show(⟨x.id,x.bh,⟨x.net.n,x.net.aE,x.net.aM⟩,x.heard,x.store⟩:Self)=x from rfl]at hW
  have Kx:=Ji (x:=x) (yF x) ht h3
  generalize nk x (yF x)=W at hW Kx
  have hf:=Kv cf h5
  have xU:=hf.len
  have hWl:=Kx.len
  rw[show some (iB (wm x W).1++[T.l ((wm x W).2.map ai)])=some (Ea x (x.store.foldl (tR x W) (W.foldl (rf x) []))) from by
   unfold wm Ea
   rw[show x.store.foldl (tR x W) (W.foldl (rf x) [])=rh x W from rfl]
   split<;>rfl]
  rw[ads];simp(disch:=omega) only[↓pQ,pS,↓reduceIte,aj,ak,ap,aq,au,av,aw,ax,ay,vZ,v8,v9,Ig,hS,hW]
  refine iP W (λi c=>[.l (c.map ai),ii i]) (rf x) (λc=>some (Ea x (x.store.foldl (tR x W) c))) [] (λi c=>vF i c) rfl (dG (by omega)) ⟨Fit.nil,by simp⟩ ?_ ?_
  ·intro i c hi hc
   have mr:=Kx.aV.gt (n:=i) (by omega) hi
   generalize hw:gt W (i:Int)=w at mr
   refine⟨?_,λq=>?_⟩
   ·unfold rf
    split
    ·exact hc.put mr (Jh cf ki w).1
    ·exact hc.mono (by omega)
   ·have pE:=hc.1.len
    have hF:=axw x.store w (ii w.seq) (.l (w.aV.map fe)) (ii w.cost) (bb w.eY) h4 h5
    have hq:=aeO (ii x.id) (ii x.net.n) (.l (x.net.aE.map dB)) (.l (x.net.aM.map ed)) (.l (x.heard.map aB)) (.l (x.store.map ai)) x w cf ki
    have hp:=Sl c w.ae w.kind w.owner w.key (tO x w) w.aV w.cost w.eY (by omega) hc.1.aV mr
    have bf:=Jf x.store w
    unfold rf re
    unfold nW at hq
    by_cases h0:bn x.store w<0
    ·rw[if_pos h0]at hF hq
     simp(disch:=omega) only[↓pQ,pS,↓reduceIte,aj,ak,ap,aq,au,av,aw,ax,ay,vZ,v8,v9,hi,hw,hF,h0,hq,hp,decide_true,Bool.true_or,dh]
     rfl
    ·have h1:0<=bn x.store w:=by omega
     rw[if_neg h0]at hF hq
     have p8:=P1 (gt x.store (bn x.store w)).ae (gt x.store (bn x.store w)).kind (gt x.store (bn x.store w)).owner (gt x.store (bn x.store w)).key (gt x.store (bn x.store w)).seq (gt x.store (bn x.store w)).aV (gt x.store (bn x.store w)).cost (gt x.store (bn x.store w)).eY w.ae w.kind w.owner w.key w.seq w.aV w.cost w.eY (h5.gt h1 bf)
     rw[show(⟨(gt x.store (bn x.store w)).ae,(gt x.store (bn x.store w)).kind,(gt x.store (bn x.store w)).owner,(gt x.store (bn x.store w)).key,(gt x.store (bn x.store w)).seq,(gt x.store (bn x.store w)).aV,(gt x.store (bn x.store w)).cost,(gt x.store (bn x.store w)).eY⟩:ah)=gt x.store (bn x.store w) from rfl,show(⟨w.ae,w.kind,w.owner,w.key,w.seq,w.aV,w.cost,w.eY⟩:ah)=w from rfl]at p8
     simp only[ai,List.cons_append,List.nil_append]at hF
     cases jX:wi (gt x.store (bn x.store w)) w with
     |true=>
      rw[jX]at p8
      simp(disch:=omega) only[↓pQ,pS,↓reduceIte,aj,ak,ap,aq,au,av,aw,ax,ay,vZ,v8,v9,hi,hw,hF,h0,p8,decide_false,Bool.false_or,Bool.not_true,dh]
     |false=>
      rw[jX]at p8
      simp(disch:=omega) only[↓pQ,pS,↓reduceIte,aj,ak,ap,aq,au,av,aw,ax,ay,vZ,v8,v9,hi,hw,hF,h0,p8,hq,hp,decide_false,Bool.false_or,Bool.not_false,dh]
      rfl
  ·intro c q hc
   simp(disch:=omega) only[↓pQ,pS,↓reduceIte,aj,ak,ap,aq,au,av,aw,ax,ay,vZ,v8,v9,]
   refine iP x.store (λi c=>[.l (c.map ai),ii i]) (tR x W) (λl=>some (Ea x l)) c (λi c=>vF (25+i) c) rfl (dG (by omega)) (hc.mono (by omega)) ?_ ?_
   ·intro i c hi hc
    have mr:=h5.gt (n:=i) (by omega) hi
    have s9:=DT cf (lg (l:=x.store) (n:=(i:Int)) (by omega) hi)
    generalize hr:gt x.store (i:Int)=r at mr s9
    refine⟨?_,λq=>?_⟩
    ·unfold tR
     split
     ·exact hc.put (by show(gd r).aV.length<=_;rw[SA];simp) (Jh cf ki r).1
     ·exact hc.mono (by omega)
    ·have pE:=hc.1.len
     have hk:=DO W r.ae r.kind r.owner r.key (ii r.seq) (.l (r.aV.map fe)) (ii r.cost) (bb r.eY) (by omega)
     rw[P6]at hk
     have hold:nW x.store r=r.seq:=by
      obtain⟨j,hj,e⟩:∃j:Nat,j<x.store.length∧bn x.store r=j:=by
       have h0:0<=eV (λy=>dO y r) x.store:=I_ (hr▸lg (l:=x.store) (n:=(i:Int)) (by omega) hi) (E9 r)
       have:=Jf x.store r
       exact⟨(bn x.store r).toNat,by unfold bn at *;omega,by unfold bn at *;omega⟩
      have pG:dO (gt x.store (bn x.store r)) r=true:=ue (λy=>dO y r) x.store (by unfold bn at e;omega)
      have hm:=lg (l:=x.store) (n:=bn x.store r) (by omega) (by omega)
      have hmr:r∈x.store:=hr▸lg (l:=x.store) (n:=(i:Int)) (by omega) hi
      have heq:gt x.store (bn x.store r)=r:=by
       generalize gt x.store (bn x.store r)=z at pG hm
       have sC:=tH cf
       obtain⟨a,ha,rfl⟩:=List.mem_iff_getElem.1 hm
       obtain⟨b,hb,e2⟩:=List.mem_iff_getElem.1 hmr
       rcases Nat.lt_trichotomy a b with ln|ln|ln
       ·have:=List.pairwise_iff_getElem.1 sC a b ha hb ln
        rw[e2]at this
        rw[uS_ this]at pG;cases pG
       ·subst ln;exact e2
       ·have:=List.pairwise_iff_getElem.1 sC b a hb ha ln
        rw[e2]at this
        have h9:=D9 pG
        rw[uS_ this]at h9;cases h9
      unfold nW
      rw[if_neg (by omega),heq]
     have hq:=aeO (ii x.id) (ii x.net.n) (.l (x.net.aE.map dB)) (.l (x.net.aM.map ed)) (.l (x.heard.map aB)) (.l (x.store.map ai)) x r cf ki
     rw[hold]at hq
     have jh:=AX r.ae r.kind r.owner r.key r.seq r.aV r.cost r.eY mr
     have hg:=axr r (axs s9)
     have p8:=P1 (gd r).ae (gd r).kind (gd r).owner (gd r).key (gd r).seq (gd r).aV (gd r).cost (gd r).eY r.ae r.kind r.owner r.key r.seq r.aV r.cost r.eY (by rw[SA];simp)
     have hp:=Sl c (gd r).ae (gd r).kind (gd r).owner (gd r).key (tO x r) (gd r).aV (gd r).cost (gd r).eY (by omega) hc.1.aV (by rw[SA];simp)
     rw[show(⟨(gd r).ae,(gd r).kind,(gd r).owner,(gd r).key,(gd r).seq,(gd r).aV,(gd r).cost,(gd r).eY⟩:ah)=gd r from rfl,show(⟨r.ae,r.kind,r.owner,r.key,r.seq,r.aV,r.cost,r.eY⟩:ah)=r from rfl]at p8
     unfold tR tQ
     simp only[ai]at hg
     by_cases h0:r.owner=x.id
     ·rw[h0]at hk hg p8 jh
      by_cases h1:bn W r<0
      ·have h2:¬bn W r>=0:=by omega
       cases jX:wi (gd r) r with
       |true=>
        rw[jX]at p8
        simp(disch:=omega) only[↓pQ,pS,↓reduceIte,aj,ak,ap,aq,au,av,aw,ax,ay,vZ,v8,v9,hi,hr,h0,hk,h1,h2,jh,hg,p8,Bool.not_true,Bool.and_false,dh]
       |false=>
        rw[jX]at p8
        simp(disch:=omega) only[↓pQ,pS,↓reduceIte,aj,ak,ap,aq,au,av,aw,ax,ay,vZ,v8,v9,hi,hr,h0,hk,h1,h2,jh,hg,p8,hq,hp,Bool.not_false,Bool.and_true,beq_self_eq_true,decide_true,dh]
        rfl
      ·have h2:bn W r>=0:=by omega
       simp(disch:=omega) only[↓pQ,pS,↓reduceIte,aj,ak,ap,aq,au,av,aw,ax,ay,vZ,v8,v9,hi,hr,h0,hk,h1,h2,decide_false,Bool.false_and,Bool.and_false,dh]
     ·have e0:(r.owner==x.id)=false:=by simpa using h0
      simp(disch:=omega) only[↓pQ,pS,↓reduceIte,aj,ak,ap,aq,au,av,aw,ax,ay,vZ,v8,v9,hi,hr,h0,e0,Bool.false_and,dh]
   ·intro l q kX
    have GV:=kX.1.len
    simp(disch:=omega) only[↓pQ,pS,↓reduceIte,aj,ak,ap,aq,au,av,aw,ax,ay,vZ,v8,v9,]
    have hwz:eM iD x.store l=eM same x.store l:=awS (λr hr=>by unfold iD;rw[if_neg (by have:=kX.2 r hr;omega)];rfl) _
    have hwi:=aeB x.store l (by omega) h5 kX.1.aV
    rw[hwz]at hwi
    have hpf:Fit 325 (eM same x.store l):=(Fit.mb (f:=same) (λr hr=>kX.1.aV r hr) hf).mono (by omega)
    unfold Ea
    generalize eM same x.store l=P at hwi hpf
    have hPl:=hpf.len
    refine(uf l.length (λi=>[.l [],ii i]) (λi=>decide ((gt l (i:Int)).seq<=100000)) (fE:=some (iB x++[.l []])) (gW:=some (if P.length<=150 then iB {x with store:=P}++[.l (l.map ai)]else iB x++[.l []])) rfl (dG (by omega)) ?_ ?_).trans ?_
    ·intro i hi s
     by_cases hq:(gt l (i:Int)).seq<=100000
     ·have mc:¬(gt l (i:Int)).seq>100000:=by omega
      simp(disch:=omega) only[↓pQ,pS,↓reduceIte,aj,ak,ap,aq,au,av,aw,ax,ay,vZ,v8,v9,hi,hq,mc,decide_true]
     ·have mc:(gt l (i:Int)).seq>100000:=by omega
      simp(disch:=omega) only[↓pQ,pS,↓reduceIte,aj,ak,ap,aq,au,av,aw,ax,ay,vZ,v8,v9,hi,hq,mc,hC,decide_false,dh]
      rfl
    ·intro s
     by_cases hq:P.length<=150
     ·have mc:¬(P.length:Int)>150:=by omega
      rw[if_pos hq]
      simp(disch:=omega) only[↓pQ,pS,↓reduceIte,aj,ak,ap,aq,au,av,aw,ax,ay,vZ,v8,v9,hC,hwi,P7 P (by omega) hpf.aV,mc,P7 l (by omega) kX.1.aV]
      rfl
     ·have mc:(P.length:Int)>150:=by omega
      rw[if_neg hq]
      simp(disch:=omega) only[↓pQ,pS,↓reduceIte,aj,ak,ap,aq,au,av,aw,ax,ay,vZ,v8,v9,hC,hwi,P7 P (by omega) hpf.aV,mc]
      rfl
    ·have e:kC l.length (λi=>decide ((gt l (i:Int)).seq<=100000))=l.all λr=>decide (r.seq<=100000):=by
      rw[Bool.eq_iff_iff,bY,List.all_eq_true]
      constructor
      ·intro h r hr
       obtain⟨i,hi,rfl⟩:=List.mem_iff_getElem.1 hr
       have:=h i hi
       rwa[eC hi]at this
      ·intro h i hi
       rw[eC hi]
       exact h _ (List.getElem_mem hi)
     rw[e]
     cases l.all λr=>decide (r.seq<=100000)with
     |false=>rw[if_neg (by decide),if_neg (by rintro⟨h,_⟩;cases h)]
     |true=>
      rw[if_pos rfl]
      by_cases hq:P.length<=150
      ·rw[if_pos hq,if_pos ⟨rfl,hq⟩]
      ·rw[if_neg hq,if_neg λh=>hq h.2]
theorem aeV{r:ah}(h:eW r=true):zO r∧r.aV.length<=6:=by
 have h1:=Ja h
 have h2:=aeN h
 have h6:=QW h
 have hn:∀y∈r.aV,G7 y:=by
  intro y hy
  unfold eW at h
  simp only[bD]at h
  have h:=h.2
  split at h
  ·simp only[bD]at h
   have:=So h.1.1.2 hy
   exact⟨jD.mk (by omega) (by omega),jD.mk (by omega) (by omega)⟩
  ·have:r.aV.length=0:=by
    split at h
    ·simp only[bD,decide_eq_true_eq]at h;omega
    ·split at h
     ·simp only[bD,decide_eq_true_eq]at h;omega
     ·cases h
   rw[List.eq_nil_of_length_eq_zero this]at hy;cases hy
 have hb:(-10<=r.ae∧r.ae<=10)∧(-10<=r.key∧r.key<=10)∧(-10<=r.cost∧r.cost<=60000):=by
  unfold eW at h
  simp only[bD]at h
  have h:=h.2
  split at h
  ·simp only[bD,bg,decide_eq_true_eq]at h;omega
  ·split at h
   ·simp only[bD,bg,decide_eq_true_eq]at h;omega
   ·split at h
    ·simp only[bD,Bool.or_eq_true,bg,decide_eq_true_eq]at h;omega
    ·cases h
 exact⟨⟨jD.mk (by omega) (by omega),jD.mk (by omega) (by omega),jD.mk (by omega) (by omega),jD.mk (by omega) (by omega),jD.mk (by omega) (by omega),⟨by unfold maxLen;omega,hn⟩,jD.mk (by omega) (by omega)⟩,h6⟩
theorem axy{l:List ah}(h:∀r∈l,r.aV.length<=6):fb zP l<=7*l.length:=by
 induction l with
 |nil=>simp[fb]
 |cons r l ih=>
  have h1:=h r (.head _)
  have h2:=ih λy hy=>h y (.tail _ hy)
  have h3:∀m:List cB,fb xh m=m.length:=by
   intro m;induction m with
   |nil=>rfl
   |cons a m ih=>simp only[fb,ih,xh,List.length_cons];omega
  simp only[fb,zP,h3,List.length_cons]
  omega
theorem axz{r:ah}(h:eW (il r)=true){q:Int}(hq:1<=q∧q<=100000):eW {r with seq:=q}=true:=by
 unfold eW at h⊢
 simp only[il,bD,bg]at h⊢
 exact⟨⟨h.1.1,hq⟩,h.2⟩
theorem axA{r:ah}(h:eW r=true):eW (il (gd r))=true:=by
 have hk:=Ja h
 unfold eW at h⊢
 unfold gd
 simp only[bD,bg]at h
 by_cases h1:r.kind=1
 ·have h2:=h.2
  rw[if_pos h1]at h2
  simp only[bD,bg,decide_eq_true_eq,Bool.not_eq_true']at h2
  rw[if_pos h1]
  simp only[il,h1,if_true,bD,bg,decide_eq_true_eq,Bool.not_eq_true']
  exact⟨⟨h.1.1,by omega⟩,⟨⟨⟨h2.1.1.1.1,h2.1.1.1.2⟩,by simp[wh,kC]⟩,h2.1.2⟩,h2.2⟩
 ·have h2:=h.2
  rw[if_neg h1]at h2
  rw[if_neg h1]
  simp only[il,h1,if_false,bD,bg]
  refine⟨⟨h.1.1,by omega⟩,?_⟩
  by_cases h3:r.kind=2
  ·rw[if_pos h3]at h2⊢
   simp only[bD,bg,decide_eq_true_eq,Bool.not_eq_true']at h2⊢
   exact⟨⟨⟨⟨h2.1.1.1.1,h2.1.1.1.2⟩,rfl⟩,by omega⟩,h2.2⟩
  ·rw[if_neg h3]at h2⊢
   by_cases h4:r.kind=3
   ·rw[if_pos h4]at h2⊢
    simp only[bD,Bool.or_eq_true,bg,decide_eq_true_eq]at h2
    have q1:=h2.1.1.1
    have q2:=h2.1.1.2
    simp[q1,q2,bg]
   ·rw[if_neg h4]at h2;cases h2
theorem axB{x:Self}(h:kf x=true)(S:List ah):∀w∈nk x S,eW (il w)=true:=by
 obtain⟨hN,gG,ki,jy,ua,cf⟩:=qi h
 obtain⟨n1,hl,ht,hA,hT⟩:=yE hN
 have iX:∀(l s:List ah),(∀r∈s,eW (il r)=true)->(∀r∈l,eW (il r)=true)->∀r∈eM same s l,eW (il r)=true:=by
  intro l
  induction l with
  |nil=>intro s h1 _;exact h1
  |cons a l ih=>
   intro s h1 h2
   refine ih (cM s (same a)) (λr hr=>?_) λr hr=>h2 r (.tail _ hr)
   rcases AY hr with e|hr
   ·rw[e];exact h2 a (.head _)
   ·exact h1 r hr
 refine iX _ _ (by simp) λr hr=>?_
 rcases List.mem_append.1 hr with hr|hr
 ·rcases List.mem_append.1 hr with hr|hr
  ·rw[<-(Al hr).1];exact aeM h hr
  ·unfold pe at hr
   split at hr
   ·obtain⟨a,ha,hr⟩:=List.mem_flatMap.1 hr
    exact(awQ (by omega) (aeA ha) hr).1
   ·cases hr
 ·obtain⟨t,jV,rfl⟩:=List.mem_map.1 hr
  have h3:=awV hT (List.mem_filter.1 jV).1
  unfold eW
  simp only[il,rb,bD,bg]
  refine⟨⟨by omega,by omega⟩,?_⟩
  simp[bg,h3]
theorem aeW{x:Self}(h:kf x=true)(S:List ah)(hq:(rh x (nk x S)).all (λr=>decide (r.seq<=100000))=true):∀r∈rh x (nk x S),eW r=true:=by
 obtain⟨hN,gG,ki,jy,ua,cf⟩:=qi h
 have hw:=axB h S
 have key:∀r∈rh x (nk x S),∃b q,eW (il b)=true∧r={b with seq:=q}:=by
  have h1:∀(l c:List ah),(∀w∈l,eW (il w)=true)->(∀y∈c,∃b q,eW (il b)=true∧y={b with seq:=q})->∀y∈l.foldl (rf x) c,∃b q,eW (il b)=true∧y={b with seq:=q}:=by
   intro l
   induction l with
   |nil=>intro c _ h;exact h
   |cons a l ih=>
    intro c hl hc
    rw[List.foldl_cons]
    refine ih _ (λw hw=>hl w (.tail _ hw)) λy hy=>?_
    unfold rf at hy
    split at hy
    ·rcases AY hy with rfl|hy
     ·exact⟨a,_,hl a (.head _),rfl⟩
     ·exact hc y hy
    ·exact hc y hy
  have h2:∀(l c:List ah),(∀w∈l,eW w=true)->(∀y∈c,∃b q,eW (il b)=true∧y={b with seq:=q})->∀y∈l.foldl (tR x (nk x S)) c,∃b q,eW (il b)=true∧y={b with seq:=q}:=by
   intro l
   induction l with
   |nil=>intro c _ h;exact h
   |cons a l ih=>
    intro c hl hc
    rw[List.foldl_cons]
    refine ih _ (λw hw=>hl w (.tail _ hw)) λy hy=>?_
    unfold tR at hy
    split at hy
    ·rcases AY hy with rfl|hy
     ·exact⟨gd a,_,axA (hl a (.head _)),rfl⟩
     ·exact hc y hy
    ·exact hc y hy
  exact h2 _ _ (λw hw=>DT cf hw) (h1 _ _ hw (by simp))
 intro r hr
 have hs:=axx cf ki (nk x S) r hr
 have oB:=List.all_eq_true.1 hq r hr
 rw[decide_eq_true_eq]at oB
 obtain⟨b,q,hb,rfl⟩:=key r hr
 exact axz hb ⟨hs,oB⟩
def tS(r:ah):ah:=⟨r.ae,r.kind,r.owner,r.key,r.seq,[],if r.kind=3 then 1 else 0,false⟩
def Jj(s:List ah)(ar:Int):List ah:=(scope s ar).map tS
theorem axC{α β:Type}(f:α->β)(l:List α)(c:List β):l.foldl (λc a=>c++[f a]) c=c++l.map f:=by
 induction l generalizing c with
 |nil=>simp
 |cons a l ih=>rw[List.foldl_cons,ih];simp
theorem aeX(a k o y s:Int)(t5 t6 t7:T):Nz [ii a,ii k,ii o,ii y,ii s,t5,t6,t7]=some [ii a,ii k,ii o,ii y,ii s,.l [],ii (if k=3 then 1 else 0),bb false]:=by
 rw[auD]
 by_cases h:k=3
 ·subst h;simp(disch:=omega) only[↓pQ,pS,↓reduceIte,aj,ak,ap,aq,au,av,aw,ax,ay,Is]
 ·simp(disch:=omega) only[↓pQ,pS,↓reduceIte,aj,ak,ap,aq,au,av,aw,ax,ay,Is,h]
theorem axD(s:List ah)(ar:Int)(h:s.length<=1048576)(hn:aR s):kq_ [.l (s.map ai),ii ar]=some [.l ((Jj s ar).map ai)]:=by
 have hl:(scope s ar).length<=s.length:=List.length_filter_le _ _
 rw[auF];simp(disch:=omega) only[↓pQ,pS,↓reduceIte,aj,ak,ap,aq,au,av,aw,ax,ay,jH_,PG,DN s ar h hn]
 unfold Jj
 generalize scope s ar=l at hl
 refine(iP l (λi c=>[.l (c.map ai),ii i,.l (l.map ai)]) (λc r=>c++[tS r]) (λc=>some [T.l (c.map ai)]) [] (λi c=>c.length<=i) rfl (dG (by omega)) (by simp) ?_ ?_).trans (by rw[axC,List.nil_append])
 ·intro i c hi hc
  refine⟨by simp;omega,λq=>?_⟩
  have uQ:Prim.ev (.lit 8 [true,true,true,true,true,false,true,true]) [ii (gt l (i:Int)).ae,ii (gt l (i:Int)).kind,ii (gt l (i:Int)).owner,ii (gt l (i:Int)).key,ii (gt l (i:Int)).seq,.l [],ii (if(gt l (i:Int)).kind=3 then 1 else 0),bb false]=some (.l ([tS (gt l (i:Int))].map ai)):=qN (by decide) rfl rfl
  simp(disch:=omega) only[↓pQ,pS,↓reduceIte,aj,ak,ap,aq,au,av,aw,ax,ay,jH_,hi,aeX,uQ]
 ·intro c q hc
  simp(disch:=omega) only[↓pQ,pS,↓reduceIte,aj,ak,ap,aq,au,av,aw,ax,ay,jH_,]
theorem axE(x:Self)(es:List dk)(h1:x.net.aE.length<=1048576)(h2:x.net.aM.length<=1048576)(h3:x.heard.length<=1048576)(h4:x.store.length<=1048576)(h5:aR x.store)(h6:es.length<=1048576):
  Z9 [ii x.id,ii x.bh,ii x.net.n,.l (x.net.aE.map dB),.l (x.net.aM.map ed),.l (x.heard.map aB),.l (x.store.map ai),.l (es.map b8)]=some [ii x.id,ii x.bh,ii x.net.n,.l (x.net.aE.map dB),.l (x.net.aM.map ed),.l (x.heard.map aB),.l (x.store.map ai),.l (es.map b8)]:=by
 have hc:=aeR x h1 h2 h3 h4 h5
 simp only[iB]at hc
 rw[ate];simp(disch:=omega) only[↓pQ,pS,↓reduceIte,aj,ak,ap,aq,au,av,aw,ax,ay,OV,hc]
def AZ(e:dk):dk:=⟨e.node,e.ae,if 0>e.left-1 then 0 else e.left-1,e.both&&decide ((if 0>e.left-1 then 0 else e.left-1)>0)⟩
def Jk(n:Node):Node:=⟨(jN {n.self with heard:=kj (n.cU.map AZ)}).1,n.cU.map AZ⟩
theorem aeY{x:Self}(h:x.store.length<=1048576)(hn:aR x.store)(hh:x.heard.length<=1048576):(jN x).1.store.length<=1048576∧aR (jN x).1.store∧(jN x).1.net=x.net∧(jN x).1.heard=x.heard∧(jN x).1.id=x.id∧(jN x).1.bh=x.bh:=by
 unfold jN
 by_cases hk:kf x=true
 ·rw[if_pos hk]
  obtain⟨hN,gG,ki,jy,ua,cf⟩:=qi hk
  obtain⟨n1,hl,ht,hA,hT⟩:=yE hN
  unfold wm
  split
  ·rename_i hc
   have hNf:=Q2 (x:=x) (Ji (x:=x) (rF x.store x.id (fJ x)) ht hh) (Kv cf hn).len
   have f:=Fit.mb (f:=same) (l:=rh x (nk x (rF x.store x.id (fJ x)))) (λr hr=>hNf.aV r hr) (Kv cf hn)
   exact⟨by have:=hc.2;show(eM same x.store _).length<=_;omega,f.aV,rfl,rfl,rfl,rfl⟩
  ·exact⟨h,hn,rfl,rfl,rfl,rfl⟩
 ·rw[if_neg hk]
  exact⟨h,hn,rfl,rfl,rfl,rfl⟩
theorem A0{n:Node}(h:l_ n=true):kf n.self=true∧n.cU.length=(q8 n.self.net.aE n.self.id n.self.net.n).length∧n.cU.length<=18:=by
 unfold l_ DM at h
 simp only[bD,decide_eq_true_eq]at h
 have hN:=yE (qi h.1).1
 have:=P4 n.self.net.aE n.self.id n.self.net.n (by omega)
 exact⟨h.1,by omega,by omega⟩
abbrev u8(n:Int):T:=.c (.int .u8 n)
def axF(n:Int):Prop:=0<=n∧n<=255
def xB{α:Type}(lt:α->α->Bool)(L:List α)(x:α):List α:=L.filter (λy=>lt y x)++[x]++L.filter (λy=>lt x y)
theorem axG{α:Type}{lt:α->α->Bool}(asy:∀a b,lt a b=true->lt b a=false)(L:List α)(x:α):(xB lt L x).length<=L.length+1:=by
 have:∀L:List α,(L.filter (λy=>lt y x)).length+(L.filter (λy=>lt x y)).length<=L.length:=by
  intro L
  induction L with
  |nil=>simp
  |cons y L ih=>
   have:=asy y x
   cases h1:lt y x<;>cases h2:lt x y<;>simp_all<;>omega
 have:=this L
 simp only[xB,List.length_append,List.length_singleton];omega
theorem aeZ{α:Type} [Inhabited α]{ok:α->Bool}{lt:α->α->Bool}(tr:∀a b c,lt a b=true->lt b c=true->lt a c=true){L:List α}(h:ei ok lt L=true)(cV:∀y∈L,ok y=true){x:α}(hx:ok x=true):ei ok lt (xB lt L x)=true:=by
 have hp:=aew tr h
 refine D6 (λy hy=>?_) ?_
 ·simp only[xB,List.mem_append,List.mem_filter,List.mem_singleton]at hy
  rcases hy with(hy|hy)|hy
  ·exact cV y hy.1
  ·rw[hy];exact hx
  ·exact cV y hy.1
 ·unfold xB
  rw[List.pairwise_append,List.pairwise_append]
  refine⟨⟨hp.filter _,List.pairwise_singleton _ _,?_⟩,hp.filter _,?_⟩
  ·intro a ha b hb
   rw[List.mem_singleton]at hb
   rw[hb];exact(List.mem_filter.1 ha).2
  ·intro a ha b hb
   have hb:=(List.mem_filter.1 hb).2
   rcases List.mem_append.1 ha with ha|ha
   ·exact tr _ _ _ (List.mem_filter.1 ha).2 hb
   ·rw[List.mem_singleton]at ha
    rw[ha];exact hb
theorem E_{α:Type} [Inhabited α]{ok:α->Bool}{lt:α->α->Bool}{l:List α}(h:ei ok lt l=true):∀x∈l,ok x=true:=by
 intro x hx
 obtain⟨i,hi,rfl⟩:=List.mem_iff_getElem.1 hx
 have:=bY.1 h i hi
 simp only[bD]at this
 have h1:=this.1
 rwa[eC hi]at h1
theorem axH(a b c:bO)(h1:mM a b=true)(h2:mM b c=true):mM a c=true:=by simp only[mM,decide_eq_true_eq]at *;omega
theorem axI(a b:bO)(h1:mM a b=true):mM b a=false:=by simp only[mM,decide_eq_true_eq,decide_eq_false_iff_not]at *;omega
theorem axJ(a b c:cg)(h1:tG a b=true)(h2:tG b c=true):tG a c=true:=by simp only[tG,decide_eq_true_eq]at *;omega
def Eb(n:Int)(L:List bO):Prop:=ei (nA n) mM L=true∧L.length<=12
def Ec(n:Int)(L:List cg):Prop:=ei (xl n) tG L=true
theorem Eb.put{n:Int}{L:List bO}(h:Eb n L)(hl:L.length<12){a b c d:Int}(hn:2<=n∧n<=6)(ha:1<=a)(ln:a<b)(hb:b<=n)(hc:1<=c∧c<=1000)(hd:0<=d∧d<=2):Eb n (xB mM L ⟨a,b,c,d⟩):=by
 refine⟨aeZ axH h.1 (E_ h.1) ?_,?_⟩
 ·simp only[nA,gj,bD,decide_eq_true_eq];omega
 ·have:=axG axI L ⟨a,b,c,d⟩
  omega
theorem Ec.put{n:Int}{L:List cg}(h:Ec n L){a b c:Int}{d:Bool}(ha:1<=a∧a<=n)(hb:1<=b∧b<=9)(hc:1<=c∧c<=1000):Ec n (xB tG L ⟨a,b,c,d⟩):=by
 refine aeZ axJ h (E_ h) ?_
 simp only[xl,gj,bD,decide_eq_true_eq];omega
theorem Eb.nil{n:Int}:Eb n []:=⟨rfl,by simp⟩
theorem Ec.nil{n:Int}:Ec n []:=rfl
def uu(a:Int):Prop:=1<=a∧a<=6
inductive Pa (s:List ah) (ar:Int):Int->Int->Int->Prop
 |nil {a:Int} (h:uu a):Pa s ar a a 0
 |cons {a u b n:Int} (h:uu a) (hc:dU s ar a u≠0) (p:Pa s ar u b n):Pa s ar a b (dU s ar a u+n)
theorem Pa.l{s:List ah}{ar a b n:Int}(h:Pa s ar a b n):uu a:=by cases h<;>assumption
theorem Pa.r{s:List ah}{ar a b n:Int}(h:Pa s ar a b n):uu b:=by induction h<;>assumption
theorem Pa.nn{s:List ah}(hs:df s=true){ar a b n:Int}(h:Pa s ar a b n):0<=n∧(n=0->a=b):=by
 induction h with
 |nil=>exact⟨by omega,λ_=>rfl⟩
 | @cons a u b n h hc p ih=>
  have:=Kq hs ar a u
  exact⟨by omega,λh=>by omega⟩
theorem Pa.snoc{s:List ah}{ar a u v n:Int}(h:Pa s ar a u n)(hc:dU s ar u v≠0)(hv:uu v):Pa s ar a v (n+dU s ar u v):=by
 induction h with
 |nil h=>rw[Int.zero_add];have:=Pa.cons h hc (.nil hv);rwa[Int.add_zero]at this
 |cons h wW p ih=>rw[Int.add_assoc];exact .cons h wW (ih hc)
theorem Pa.app{s:List ah}{ar a u v n m:Int}(h:Pa s ar a u n)(h':Pa s ar u v m):Pa s ar a v (n+m):=by
 induction h with
 |nil h=>rwa[Int.zero_add]
 |cons h wW p ih=>rw[Int.add_assoc];exact .cons h wW (ih h')
theorem Pa.last{s:List ah}{ar a v n:Int}(h:Pa s ar a v n):(a=v∧n=0)∨∃p m,Pa s ar a p m∧dU s ar p v≠0∧n=m+dU s ar p v:=by
 induction h with
 |nil h=>exact .inl ⟨rfl,rfl⟩
 | @cons a u b n h hc p ih=>
  right
  rcases ih with⟨rfl,rfl⟩|⟨p',m,h1,h2,h3⟩
  ·exact⟨a,0,.nil h,hc,by omega⟩
  ·exact⟨p',dU s ar a u+m,.cons h hc h1,h2,by omega⟩
def Ed(s:List ah)(ar fr a:Int)(W:List Way)(v:Int):Way:=
 if dU s ar a v=0∨v=fr then gt W v
 else if(gt W v).to=0∨(gt W a).cost+dU s ar a v<(gt W v).cost then⟨v,(gt W a).cost+dU s ar a v,if a=fr then [v]else(gt W a).aP⟩
 else if(gt W a).cost+dU s ar a v=(gt W v).cost then mB (gt W v) ⟨v,(gt W a).cost+dU s ar a v,if a=fr then [v]else(gt W a).aP⟩
 else gt W v
theorem axK{s:List ah}(hs:df s=true)(ar fr:Int){a:Int}(ha:uu a){W:List Way}(hl7:W.length=7){v:Int}(hv:uu v):gt (qg s ar fr a W) v=Ed s ar fr a W v:=by
 have hl:(List.range 6).length=6:=List.length_range
 have haa:Ed s ar fr a W a=gt W a:=by unfold Ed;rw[if_pos (.inl (IR hs ar a))]
 have key:=J6 (l:=List.range 6) (g:=nj s ar fr a) (c:=W) (Inv:=λi W'=>W'.length=7∧∀u:Int,uu u->gt W' u=if u<=i then Ed s ar fr a W u else gt W u)
  ⟨hl7,λu hu=>by rw[if_neg (by have:=hu.1;omega)]⟩ λi W' hi ⟨h1,h2⟩=>by
  rw[hl]at hi
  rw[eC (by rw[hl];omega),List.getElem_range]
  have ou:i<6:=by omega
  have ga:gt W' a=gt W a:=by rw[h2 a ha];split<;>simp[haa]
  have gi:gt W' ((i:Int)+1)=gt W ((i:Int)+1):=by rw[h2 _ ⟨by omega,by omega⟩,if_neg (by omega)]
  have hlen:(nj s ar fr a W' i).length=7:=by
   unfold nj
   split
   ·exact h1
   ·split
    ·simp[h1]
    ·split
     ·simp[h1]
     ·exact h1
  refine⟨hlen,λu hu=>?_⟩
  have hu0:0<=u:=by have:=hu.1;omega
  by_cases he:u=(i:Int)+1
  ·subst he
   rw[if_pos (by omega)]
   unfold nj Ed
   rw[gi,ga]
   split
   ·rw[gi]
   ·split
    ·rw[uq h1 ou hu0,if_pos rfl]
    ·split
     ·rw[uq h1 ou hu0,if_pos rfl]
     ·rw[gi]
  ·have:gt (nj s ar fr a W' i) u=gt W' u:=by
    unfold nj
    split
    ·rfl
    ·split
     ·rw[uq h1 ou hu0,if_neg he]
     ·split
      ·rw[uq h1 ou hu0,if_neg he]
      ·rfl
   rw[this,h2 u hu]
   exact zR ⟨λh=>by omega,λh=>by omega⟩ _ _
 rw[hl]at key
 have:=key.2 v hv
 rwa[if_pos (show v<=((6:Nat):Int) by have:=hv.2;omega)]at this
structure DI (s:List ah) (ar fr:Int) (W:List Way) (D:List Int):Prop where
 fr0:(gt W fr).to=fr∧(gt W fr).cost=0
 snd:∀v,uu v->(gt W v).to≠0->Pa s ar fr v (gt W v).cost
 rel:∀p∈D,∀v,uu v->dU s ar p v≠0->(gt W v).to≠0∧(gt W v).cost<=(gt W p).cost+dU s ar p v
 eo:∀v,uu v->v≠fr->(gt W v).to≠0->∀h,h∈(gt W v).aP↔∃p∈D,dU s ar p v≠0∧(gt W p).cost+dU s ar p v=(gt W v).cost∧(if p=fr then h=v else h∈(gt W p).aP)
theorem DI.start{s:List ah}{ar fr:Int}(h:uu fr):DI s ar fr (W0 fr) []:=by
 have g:∀v,uu v->(gt (W0 fr) v).to≠0->v=fr:=λv hv hn=>by
  have h1:=hv.1
  have h2:=hv.2
  rw[vC h (by omega) (by omega)]at hn
  split at hn
  ·rename_i e;exact e.symm
  ·exact absurd rfl hn
 have g0:gt (W0 fr) fr=⟨fr,0,[]⟩:=by have h1:=h.1;have h2:=h.2;rw[vC h (by omega) (by omega),if_pos rfl]
 refine⟨by rw[g0];exact⟨rfl,rfl⟩,λv hv hn=>?_,by simp,λv hv dH hn=>absurd (g v hv hn) dH⟩
 have:=g v hv hn
 subst this
 rw[g0];exact .nil h
theorem axL{a b:Way}(ha:fZ a.aP)(hb:fZ b.aP)(he:a.cost=b.cost)(h:Int):h∈(mB a b).aP↔h∈a.aP∨h∈b.aP:=by
 unfold mB
 rw[if_neg (by omega),if_neg (by omega),IH]
 constructor
 ·exactλh=>h.2
 ·exactλh'=>⟨h'.elim (ha.2 h) (hb.2 h),h'⟩
theorem DI.step{s:List ah}(hs:df s=true){ar fr:Int}{W:List Way}{D:List Int}(hI:iK fr W D)(h:DI s ar fr W D)(hb:et W D≠0):DI s ar fr (qg s ar fr (et W D) W) (D++[et W D]):=by
 obtain⟨h1,h2,h3,h4⟩:=(DY W D).resolve_left λe=>hb e.1
 generalize ha:et W D=a at*
 have hl:=hI.ok.len
 have bI:=λv (hv:uu v)=>axK hs ar fr (a:=a) h1 hl hv
 have ho:∀v,uu v->fZ (gt W v).aP:=λv hv=>hI.ok.aP v (by have:=hv.1;omega) (by have:=hv.2;omega)
 have hX:∀v,uu v->fZ (if a=fr then [v]else(gt W a).aP):=λv hv=>by
  split
  ·exact Kl hv.1 hv.2
  ·exact ho a h1
 have hD:∀p,p∈D∨p=a->gt (qg s ar fr a W) p=gt W p∧uu p:=by
  intro p hp
  rcases hp with hp|rfl
  ·have hm:=hI.mem p hp
   refine⟨?_,hm.1⟩
   rw[bI p hm.1]
   unfold Ed
   have hmo:=hI.mono p hp a h1.1 h1.2 h3 h2
   have hk:=Kq hs ar a p
   by_cases q1:dU s ar a p=0∨p=fr
   ·rw[if_pos q1]
   rw[if_neg q1,if_neg,if_neg]
   ·intro e;have:dU s ar a p≠0:=λe=>q1 (.inl e);omega
   ·rintro(e|e)
    ·exact hm.2 e
    ·omega
  ·refine⟨?_,h1⟩
   rw[bI p h1];unfold Ed;rw[if_pos (.inl (IR hs ar p))]
 have hfr:uu fr:=hI.fr6
 refine⟨?_,λv hv hn=>?_,λp hp v hv hc=>?_,λv hv dH hn x=>?_⟩
 ·rw[bI fr hfr];unfold Ed;rw[if_pos (.inr rfl)];exact h.fr0
 ·rw[bI v hv]at hn⊢
  unfold Ed at hn⊢
  by_cases q1:dU s ar a v=0∨v=fr
  ·rw[if_pos q1]at hn⊢;exact h.snd v hv hn
  rw[if_neg q1]at hn⊢
  have hpa:=(h.snd a h1 h2).snoc (λe=>q1 (.inl e)) hv
  by_cases q2:(gt W v).to=0∨(gt W a).cost+dU s ar a v<(gt W v).cost
  ·rw[if_pos q2];exact hpa
  rw[if_neg q2]at hn⊢
  by_cases q3:(gt W a).cost+dU s ar a v=(gt W v).cost
  ·rw[if_pos q3]
   rcases Ag (gt W v) ⟨v,(gt W a).cost+dU s ar a v,if a=fr then [v]else(gt W a).aP⟩with e|e
   ·rw[e];exact h.snd v hv λe=>q2 (.inl e)
   ·rw[e];exact hpa
  ·rw[if_neg q3];exact h.snd v hv λe=>q2 (.inl e)
 ·have s8:p∈D∨p=a:=by simpa using hp
  obtain⟨g1,g2⟩:=hD p s8
  rw[g1,bI v hv]
  unfold Ed
  by_cases hpa:p=a
  ·rw[hpa]at hc⊢
   by_cases q1:v=fr
   ·subst q1
    rw[if_pos (.inr rfl)]
    have:=Kq hs ar a v
    have h5:=hI.ok.cost a (by omega) (by omega)
    have h6:=h.fr0
    have:=hv.1
    refine⟨by omega,by omega⟩
   ·rw[if_neg (λe=>e.elim hc q1)]
    split
    ·exact⟨by show v≠0;have:=hv.1;omega,by show(gt W a).cost+_<=_;omega⟩
    ·rename_i q2
     split
     ·rename_i q3
      have pD:=(hI.ok.to v (by have:=hv.1;omega) (by have:=hv.2;omega)).resolve_left (λe=>q2 (.inl e))
      rw[xq pD rfl]
      refine⟨by have:=hv.1;omega,?_⟩
      rcases Ag (gt W v) ⟨v,(gt W a).cost+dU s ar a v,if a=fr then [v]else(gt W a).aP⟩with e|e
      ·rw[e];omega
      ·rw[e];exact Int.le_refl _
     ·exact⟨λe=>q2 (.inl e),by omega⟩
  ·have hpD:=s8.resolve_right hpa
   obtain⟨k1,k2⟩:=h.rel p hpD v hv hc
   split
   ·exact⟨k1,k2⟩
   ·split
    ·rename_i q2
     have q3:=q2.resolve_left k1
     exact⟨by show v≠0;have:=hv.1;omega,by show(gt W a).cost+_<=_;omega⟩
    ·split
     ·have pD:=(hI.ok.to v (by have:=hv.1;omega) (by have:=hv.2;omega)).resolve_left k1
      rw[xq pD rfl]
      refine⟨by have:=hv.1;omega,?_⟩
      rcases Ag (gt W v) ⟨v,(gt W a).cost+dU s ar a v,if a=fr then [v]else(gt W a).aP⟩with e|e
      ·rw[e];exact k2
      ·rename_i q3;rw[e];show(gt W a).cost+_<=_;omega
     ·exact⟨k1,k2⟩
 ·
  have yL:∀c:Int,(∃p∈D++[a],dU s ar p v≠0∧(gt (qg s ar fr a W) p).cost+dU s ar p v=c∧(if p=fr then x=v else x∈(gt (qg s ar fr a W) p).aP))↔
    ((∃p∈D,dU s ar p v≠0∧(gt W p).cost+dU s ar p v=c∧(if p=fr then x=v else x∈(gt W p).aP))∨(dU s ar a v≠0∧(gt W a).cost+dU s ar a v=c∧x∈(if a=fr then [v]else(gt W a).aP))):=by
   intro c
   have ea:(if a=fr then x=v else x∈(gt W a).aP)↔x∈(if a=fr then [v]else(gt W a).aP):=by
    split<;>simp
   constructor
   ·rintro⟨p,hp,k1,k2,k3⟩
    have s8:p∈D∨p=a:=by simpa using hp
    rw[(hD p s8).1]at k2 k3
    rcases s8 with s8|rfl
    ·exact .inl ⟨p,s8,k1,k2,k3⟩
    ·exact .inr ⟨k1,k2,ea.1 k3⟩
   ·rintro(⟨p,hp,k1,k2,k3⟩|⟨k1,k2,k3⟩)
    ·exact⟨p,by simp[hp],k1,by rw[(hD p (.inl hp)).1];exact k2,by rw[(hD p (.inl hp)).1];exact k3⟩
    ·exact⟨a,by simp,k1,by rw[(hD a (.inr rfl)).1];exact k2,by rw[(hD a (.inr rfl)).1];exact ea.2 k3⟩
  rw[bI v hv]at hn⊢
  rw[yL]
  unfold Ed at hn⊢
  by_cases q1:dU s ar a v=0
  ·rw[if_pos (.inl q1)]at hn⊢
   rw[h.eo v hv dH hn]
   exact⟨.inl,λk=>k.resolve_right λk=>k.1 q1⟩
  rw[if_neg (λe=>e.elim q1 dH)]at hn⊢
  by_cases q2:(gt W v).to=0∨(gt W a).cost+dU s ar a v<(gt W v).cost
  ·rw[if_pos q2]at hn⊢
   show x∈(if a=fr then [v]else(gt W a).aP)↔_
   constructor
   ·exactλk=>.inr ⟨q1,rfl,k⟩
   ·rintro(⟨p,hp,k1,k2,k3⟩|⟨_,_,k⟩)
    ·obtain⟨k4,k5⟩:=h.rel p hp v hv k1
     rcases q2 with q2|q2
     ·exact absurd q2 k4
     ·have k2:(gt W p).cost+dU s ar p v=(gt W a).cost+dU s ar a v:=k2
      omega
    ·exact k
  rw[if_neg q2]at hn⊢
  have ae1:(gt W v).to≠0:=λe=>q2 (.inl e)
  by_cases q3:(gt W a).cost+dU s ar a v=(gt W v).cost
  ·rw[if_pos q3]
   have DV:(mB (gt W v) ⟨v,(gt W a).cost+dU s ar a v,if a=fr then [v]else(gt W a).aP⟩).cost=(gt W v).cost:=by
    rcases Ag (gt W v) ⟨v,(gt W a).cost+dU s ar a v,if a=fr then [v]else(gt W a).aP⟩with e|e
    ·exact e
    ·rw[e];exact q3
   rw[DV,axL (ho v hv) (hX v hv) q3.symm,h.eo v hv dH ae1]
   constructor
   ·exactλk=>k.imp_right λk=>⟨q1,q3,k⟩
   ·exactλk=>k.imp_right λk=>k.2.2
  ·rw[if_neg q3]
   rw[h.eo v hv dH ae1]
   exact⟨.inl,λk=>k.resolve_right λk=>q3 k.2.1⟩
section
variable {x:Net} {L U:List Bool}
end
theorem Q3(s:List ah)(r:ah):bn s r<s.length:=sm _ _
theorem axM{s:List ah}(h:gZ s){a b:ah}(ha:a∈s)(hb:b∈s)(hk:dO a b=true):a=b:=by
 obtain⟨i,hi,e1⟩:=List.mem_iff_getElem.1 ha
 obtain⟨j,hj,e2⟩:=List.mem_iff_getElem.1 hb
 have hp:=List.pairwise_iff_getElem.1 h
 rw[sameKey_iff]at hk
 rcases Nat.lt_trichotomy i j with rV|rV|rV
 ·have:=hp i j hi hj rV
  rw[e1,e2]at this
  rw[p7]at this
  omega
 ·subst rV;rw[<-e1,<-e2]
 ·have:=hp j i hj hi rV
  rw[e1,e2]at this
  rw[p7]at this
  omega
theorem Jl{s:List ah}{r:ah}(h:0<=bn s r):gt s (bn s r)∈s∧dO (gt s (bn s r)) r=true:=
 ⟨lg h (Q3 s r),ue (λx:ah=>dO x r) s h⟩
theorem axN{s:List ah}{r:ah}(h:bn s r<0):∀x∈s,dO x r=false:=(EP _ _).1 h
theorem Q4{s:List ah}{r x:ah}(hx:x∈s)(hk:dO x r=true):0<=bn s r:=I_ hx hk
theorem ae2{s:List ah}(hs:gZ s){r x:ah}(hx:x∈s)(hk:dO x r=true):gt s (bn s r)=x:=by
 obtain⟨h1,h2⟩:=Jl (Q4 hx hk)
 refine axM hs h1 hx ?_
 rw[sameKey_iff]at*
 omega
def pf(s:List ah)(r:ah):Bool:=eW r&&(if 0<=bn s r then decide ((gt s (bn s r)).seq<r.seq)else decide (s.length<150))
def nX(s:List ah)(r:ah):List ah:=if pf s r=true then cM s r else s
theorem wo{s:List ah}(h:df s=true):s.length<=150:=by
 unfold df at h
 simp only[bD,decide_eq_true_eq]at h
 exact h.1
theorem Ee{s:List ah}(h1:gZ s)(h2:∀r∈s,eW r=true)(h3:s.length<=150):df s=true:=by
 unfold df
 simp only[bD,decide_eq_true_eq]
 exact⟨h3,D6 h2 h1⟩
theorem SB{s:List ah}(h:df s=true):aR s:=λr hr=>by
 have:=QW (DT h hr)
 omega
theorem ae3{α:Type}{p q:α->Bool}(hpq:∀a,p a=true->q a=false):∀{l:List α} {x:α},x∈l->p x=false->q x=false->(l.filter p).length+(l.filter q).length+1<=l.length
 |a::l,x,hx,hp,hq=>by
  have gen:∀l:List α,(l.filter p).length+(l.filter q).length<=l.length:=by
   intro l
   induction l with
   |nil=>simp
   |cons a l ih=>
    have:=hpq a
    cases h1:p a<;>cases h2:q a<;>simp_all<;>omega
  rcases List.mem_cons.1 hx with rfl|hx
  ·have:=gen l
   simp only[List.filter_cons,hp,hq,dh,if_false,List.length_cons]
   omega
  ·have ih:=ae3 hpq hx hp hq
   have:=hpq a
   cases h1:p a<;>cases h2:q a<;>simp_all<;>omega
theorem axP{s:List ah}{r:ah}(h:0<=bn s r):(cM s r).length<=s.length:=by
 obtain⟨h1,h2⟩:=Jl h
 rw[sameKey_iff]at h2
 have:=ae3 (p:=λx=>fo x r) (q:=λx=>fo r x) (λa ha=>by
  rw[<-Bool.not_eq_true]
  intro hb
  rw[p7]at ha hb
  omega) h1 (by rw[<-Bool.not_eq_true,p7];omega) (by rw[<-Bool.not_eq_true,p7];omega)
 unfold cM
 simp only[List.length_append,List.length_singleton]
 omega
theorem axQ{s:List ah}(h:df s=true){r:ah}(hr:eW r=true)(hk:0<=bn s r∨s.length<150):df (cM s r)=true:=by
 have hl:=wo h
 refine Ee (Kj (tH h) r) (λx hx=>?_) ?_
 ·rcases AY hx with rfl|hx
  ·exact hr
  ·exact DT h hx
 ·rcases hk with hk|hk
  ·have:=axP hk;omega
  ·have:=IF s r;omega
theorem Ef{s:List ah}(h:df s=true)(r:ah):df (nX s r)=true:=by
 unfold nX
 split
 ·rename_i hi
  unfold pf at hi
  simp only[bD]at hi
  refine axQ h hi.1 ?_
  split at hi
  ·rename_i h0;exact .inl h0
  ·exact .inr (by simpa using hi.2)
 ·exact h
theorem axR(s:List ah)(r:ah)(h:df s=true)(hr:r.aV.length<=1048576):
  j7_ [.l (s.map ai),ii r.ae,ii r.kind,ii r.owner,ii r.key,ii r.seq,.l (r.aV.map fe),ii r.cost,bb r.eY]=some (if pf s r=true then [.l ((cM s r).map ai),bb true]else [.l [],bb false]):=by
 have hl:=wo h
 have hn:=SB h
 have e1:=Ix s (by omega) hn
 have e2:=adB r.ae r.kind r.owner r.key r.seq r.aV r.cost r.eY hr
 have e3:=IB s r.ae r.kind r.owner r.key (ii r.seq) (.l (r.aV.map fe)) (ii r.cost) (bb r.eY) (by omega)
 have e4:=DQ s r.ae r.kind r.owner r.key r.seq r.aV r.cost r.eY (by omega) hn (tH h) hr
 rw[P6]at e3
 have bf:=Q3 s r
 rw[au9]
 unfold pf
 cases hk:eW r with
 |false=>
  rw[show eW ⟨r.ae,r.kind,r.owner,r.key,r.seq,r.aV,r.cost,r.eY⟩=eW r from rfl,hk]at e2
  simp(disch:=omega) only[↓pQ,pS,↓reduceIte,aj,ak,ap,aq,au,av,aw,ax,ay,PR,e1,h,e2,dh]
  simp
 |true=>
  rw[show eW ⟨r.ae,r.kind,r.owner,r.key,r.seq,r.aV,r.cost,r.eY⟩=eW r from rfl,hk]at e2
  by_cases h0:0<=bn s r
  ·rw[if_pos h0]
   have h1:bn s r>=0:=h0
   have h2:¬bn s r<0:=by omega
   by_cases hq:(gt s (bn s r)).seq<r.seq
   ·have mc:¬(gt s (bn s r)).seq>=r.seq:=by omega
    simp(disch:=omega) only[↓pQ,pS,↓reduceIte,aj,ak,ap,aq,au,av,aw,ax,ay,PR,e1,h,e2,e3,h1,h2,bf,mc,e4]
    simp[hq]
   ·have mc:(gt s (bn s r)).seq>=r.seq:=by omega
    simp(disch:=omega) only[↓pQ,pS,↓reduceIte,aj,ak,ap,aq,au,av,aw,ax,ay,PR,e1,h,e2,e3,h1,h2,bf,mc]
    simp[hq]
  ·rw[if_neg h0]
   have h1:¬bn s r>=0:=h0
   have h2:bn s r<0:=by omega
   by_cases hq:s.length<150
   ·have mc:¬(s.length:Int)>=150:=by omega
    simp(disch:=omega) only[↓pQ,pS,↓reduceIte,aj,ak,ap,aq,au,av,aw,ax,ay,PR,e1,h,e2,e3,h1,h2,mc,e4]
    simp[hq]
   ·have mc:(s.length:Int)>=150:=by omega
    simp(disch:=omega) only[↓pQ,pS,↓reduceIte,aj,ak,ap,aq,au,av,aw,ax,ay,PR,e1,h,e2,e3,h1,h2,mc]
    simp[hq]
theorem axS(s:List ah)(r:ah)(hl:s.length<=1048570)(hn:aR s)(sC:gZ s)(hr:r.aV.length<=1048576):
  u1_ [.l (s.map ai),ii r.ae,ii r.kind,ii r.owner,ii r.key,ii r.seq,.l (r.aV.map fe),ii r.cost,bb r.eY]=some [.l ((nX s r).map ai),bb (pf s r)]:=by
 have e2:=adC r.ae r.kind r.owner r.key r.seq r.aV r.cost r.eY hr
 have e3:=DO s r.ae r.kind r.owner r.key (ii r.seq) (.l (r.aV.map fe)) (ii r.cost) (bb r.eY) (by omega)
 have e4:=Sl s r.ae r.kind r.owner r.key r.seq r.aV r.cost r.eY (by omega) hn hr
 rw[P6]at e3
 have bf:=Q3 s r
 rw[auR]
 unfold nX
 have hB:pf s r=(eW r&&(if 0<=bn s r then decide ((gt s (bn s r)).seq<r.seq)else decide (s.length<150))):=rfl
 cases hk:eW r with
 |false=>
  rw[show eW ⟨r.ae,r.kind,r.owner,r.key,r.seq,r.aV,r.cost,r.eY⟩=eW r from rfl,hk]at e2
  rw[hB,hk]
  simp(disch:=omega) only[↓pQ,pS,↓reduceIte,aj,ak,ap,aq,au,av,aw,ax,ay,PK,e2,e3,dh]
  simp
 |true=>
  rw[show eW ⟨r.ae,r.kind,r.owner,r.key,r.seq,r.aV,r.cost,r.eY⟩=eW r from rfl,hk]at e2
  by_cases h0:0<=bn s r
  ·rw[hB,hk,if_pos h0]
   have h1:bn s r>=0:=h0
   have h2:¬bn s r<0:=by omega
   by_cases hq:(gt s (bn s r)).seq<r.seq
   ·have mc:¬(gt s (bn s r)).seq>=r.seq:=by omega
    simp(disch:=omega) only[↓pQ,pS,↓reduceIte,aj,ak,ap,aq,au,av,aw,ax,ay,PK,e2,e3,h1,h2,bf,mc,e4]
    simp[hq]
   ·have mc:(gt s (bn s r)).seq>=r.seq:=by omega
    simp(disch:=omega) only[↓pQ,pS,↓reduceIte,aj,ak,ap,aq,au,av,aw,ax,ay,PK,e2,e3,h1,h2,bf,mc]
    simp[hq]
  ·rw[hB,hk,if_neg h0]
   have h1:¬bn s r>=0:=h0
   have h2:bn s r<0:=by omega
   by_cases hq:s.length<150
   ·have mc:¬(s.length:Int)>=150:=by omega
    simp(disch:=omega) only[↓pQ,pS,↓reduceIte,aj,ak,ap,aq,au,av,aw,ax,ay,PK,e2,e3,h1,h2,mc,e4]
    simp[hq]
   ·have mc:(s.length:Int)>=150:=by omega
    simp(disch:=omega) only[↓pQ,pS,↓reduceIte,aj,ak,ap,aq,au,av,aw,ax,ay,PK,e2,e3,h1,h2,mc]
    simp[hq]
def li(p:List ah×List ah)(r:ah):List ah×List ah:=if pf p.1 r=true then(cM p.1 r,p.2++[r])else p
def E'(s l:List ah):List ah×List ah:=l.foldl li (s,[])
theorem Eg(p:List ah×List ah)(r:ah):(li p r).1=nX p.1 r:=by unfold li nX;split<;>rfl
theorem axT{s l:List ah}(h:df s=true):df (E' s l).1=true:=by
 have:∀(l:List ah) (p:List ah×List ah),df p.1=true->df (l.foldl li p).1=true:=by
  intro l
  induction l with
  |nil=>exactλp h=>h
  |cons r l ih=>intro p h;exact ih _ (by rw[Eg];exact Ef h r)
 exact this l (s,[]) h
theorem axU(s l:List ah)(h:df s=true)(hl:l.length<=1048576)(hn:aR l):j1_ [.l (s.map ai),.l (l.map ai)]=some [.l ((E' s l).1.map ai),.l ((E' s l).2.map ai)]:=by
 have se:=wo h
 rw[au'];simp(disch:=omega) only[↓pQ,pS,↓reduceIte,aj,ak,ap,aq,au,av,aw,ax,ay,u8_,PT,IC s (by omega) (SB h)]
 refine iP l (λi p=>[.l (p.1.map ai),.l (p.2.map ai),ii i]) li (λp=>some [T.l (p.1.map ai),T.l (p.2.map ai)]) (s,[]) (λi p=>df p.1=true∧p.2.length<=i) rfl (dG hl) ⟨h,by simp⟩ ?_ ?_
 ·rintro i ⟨S,K⟩ hi ⟨hS,hK⟩
  have hS:df S=true:=hS
  have hK:K.length<=i:=hK
  have mr:=hn.gt (n:=(i:Int)) (by omega) hi
  have e1:=axR S (gt l (i:Int)) hS mr
  have e2:=Ki (gt l (i:Int)).ae (gt l (i:Int)).kind (gt l (i:Int)).owner (gt l (i:Int)).key (gt l (i:Int)).seq (gt l (i:Int)).aV (gt l (i:Int)).cost (gt l (i:Int)).eY mr
  refine⟨⟨by rw[Eg];exact Ef hS _,by unfold li;split;(· show(K++[_]).length<=_;simp;omega);(· show K.length<=_;omega)⟩,λq=>?_⟩
  unfold li
  show _=_
  cases hb:pf S (gt l (i:Int))with
  |true=>
   rw[if_pos hb]at e1
   simp(disch:=omega) only[↓pQ,pS,↓reduceIte,aj,ak,ap,aq,au,av,aw,ax,ay,u8_,hi,e1,e2]
  |false=>
   rw[if_neg (by rw[hb];simp)]at e1
   simp(disch:=omega) only[↓pQ,pS,↓reduceIte,aj,ak,ap,aq,au,av,aw,ax,ay,u8_,hi,e1,dh]
 ·rintro⟨S,K⟩ q ⟨hS,hK⟩
  simp(disch:=omega) only[↓pQ,pS,↓reduceIte,aj,ak,ap,aq,au,av,aw,ax,ay,u8_,]
theorem axV(x:Self)(h1:x.net.aE.length<=1048576)(h2:x.net.aM.length<=1048576)(h3:x.heard.length<=1048576)(h4:x.store.length<=1048576)(h5:aR x.store):
  ET [ii x.id,ii x.bh,ii x.net.n,.l (x.net.aE.map dB),.l (x.net.aM.map ed),.l (x.heard.map aB),.l (x.store.map ai)]=some [ii x.id,ii x.bh,ii x.net.n,.l (x.net.aE.map dB),.l (x.net.aM.map ed),.l (x.heard.map aB),.l (x.store.map ai)]:=by
 have hN:RW [ii x.net.n,.l (x.net.aE.map dB),.l (x.net.aM.map ed)]=some [ii x.net.n,.l (x.net.aE.map dB),.l (x.net.aM.map ed)]:=by
  rw[adt];simp(disch:=omega) only[↓pQ,pS,↓reduceIte,aj,ak,ap,aq,au,av,aw,ax,ay,Ij]
 rw[adu];simp(disch:=omega) only[↓pQ,pS,↓reduceIte,aj,ak,ap,aq,au,av,aw,ax,ay,Ik,hN,tK _ h3,IC _ h4 h5]
theorem ae4(x:Self)(h1:x.net.aE.length<=1048576)(h2:x.net.aM.length<=1048576)(h3:x.heard.length<=1048576)(h4:x.store.length<=1048576)(h5:aR x.store):
  ER [ii x.id,ii x.bh,ii x.net.n,.l (x.net.aE.map dB),.l (x.net.aM.map ed),.l (x.heard.map aB),.l (x.store.map ai)]=some [ii x.id,ii x.bh,ii x.net.n,.l (x.net.aE.map dB),.l (x.net.aM.map ed),.l (x.heard.map aB),.l (x.store.map ai)]:=by
 rw[adk];simp(disch:=omega) only[↓pQ,pS,↓reduceIte,aj,ak,ap,aq,au,av,aw,ax,ay,H8,P7 _ h4 h5]
theorem Jm{x:Self}(h:kf x=true):df x.store=true:=by
 unfold kf at h
 simp only[bD]at h
 exact h.2.2.2.2
theorem Jn{x:Self}(h:kf x=true){s:List ah}(hs:df s=true):kf {x with store:=s}=true:=by
 unfold kf at*
 simp only[bD]at*
 exact⟨h.1,h.2.1,h.2.2.1,h.2.2.2.1,hs⟩
def vG(x:Self)(l:List ah):List ah×List ah:=if kf x=true then E' x.store l else(x.store,[])
theorem axW(x:Self)(l:List ah)(h1:x.net.aE.length<=1048576)(h2:x.net.aM.length<=1048576)(h3:x.heard.length<=1048576)(h4:x.store.length<=1048576)(h5:aR x.store)(hl:l.length<=1048576)(hn:aR l):
  DE [ii x.id,ii x.bh,ii x.net.n,.l (x.net.aE.map dB),.l (x.net.aM.map ed),.l (x.heard.map aB),.l (x.store.map ai),.l (l.map ai)]=
   some [ii x.id,ii x.bh,ii x.net.n,.l (x.net.aE.map dB),.l (x.net.aM.map ed),.l (x.heard.map aB),.l ((vG x l).1.map ai),.l ((vG x l).2.map ai)]:=by
 have e1:=axV x h1 h2 h3 h4 h5
 have e2:=Iy x.id x.bh x.net.n x.net.aE x.net.aM x.heard x.store h1 h2 h3 h4 h5
 rw[show(⟨x.id,x.bh,⟨x.net.n,x.net.aE,x.net.aM⟩,x.heard,x.store⟩:Self)=x from rfl]at e2
 rw[avb]
 unfold vG
 cases hk:kf x with
 |false=>
  rw[hk]at e2
  simp(disch:=omega) only[↓pQ,pS,↓reduceIte,aj,ak,ap,aq,au,av,aw,ax,ay,Iv,e1,e2,dh]
  rfl
 |true=>
  rw[hk]at e2
  simp(disch:=omega) only[↓pQ,pS,↓reduceIte,aj,ak,ap,aq,au,av,aw,ax,ay,Iv,e1,e2,axU x.store l (Jm hk) hl hn]
theorem axX(x:Self)(l:List ah)(h1:x.net.aE.length<=1048576)(h2:x.net.aM.length<=1048576)(h3:x.heard.length<=1048576)(h4:x.store.length<=1048576)(h5:aR x.store)(hl:l.length<=1048576)(hn:aR l):
  Dz [ii x.id,ii x.bh,ii x.net.n,.l (x.net.aE.map dB),.l (x.net.aM.map ed),.l (x.heard.map aB),.l (x.store.map ai),.l (l.map ai)]=
   some [ii x.id,ii x.bh,ii x.net.n,.l (x.net.aE.map dB),.l (x.net.aM.map ed),.l (x.heard.map aB),.l ((vG x l).1.map ai),.l ((vG x l).2.map ai)]:=by
 have e1:=ae4 x h1 h2 h3 h4 h5
 have e2:=Iz x.id x.bh x.net.n x.net.aE x.net.aM x.heard x.store h1 h2 h3 h4 h5
 rw[show(⟨x.id,x.bh,⟨x.net.n,x.net.aE,x.net.aM⟩,x.heard,x.store⟩:Self)=x from rfl]at e2
 rw[auT]
 unfold vG
 cases hk:kf x with
 |false=>
  rw[hk]at e2
  simp(disch:=omega) only[↓pQ,pS,↓reduceIte,aj,ak,ap,aq,au,av,aw,ax,ay,Sj,It,e1,e2,dh]
  rfl
 |true=>
  rw[hk]at e2
  have hS:=Jm hk
  have se:=wo hS
  simp(disch:=omega) only[↓pQ,pS,↓reduceIte,aj,ak,ap,aq,au,av,aw,ax,ay,Sj,It,e1,e2]
  refine iP l (λi p=>[.l (p.2.map ai),ii i,.l (p.1.map ai),.l (x.store.map ai)]) li (λp=>some [ii x.id,ii x.bh,ii x.net.n,T.l (x.net.aE.map dB),T.l (x.net.aM.map ed),T.l (x.heard.map aB),T.l (p.1.map ai),T.l (p.2.map ai)]) (x.store,[]) (λi p=>df p.1=true∧p.2.length<=i) rfl (dG hl) ⟨hS,by simp⟩ ?_ ?_
  ·rintro i ⟨S,K⟩ hi ⟨hS,hK⟩
   have hS:df S=true:=hS
   have hK:K.length<=i:=hK
   have hSl:=wo hS
   have mr:=hn.gt (n:=(i:Int)) (by omega) hi
   have e1:=axS S (gt l (i:Int)) (by omega) (SB hS) (tH hS) mr
   have e2:=AX (gt l (i:Int)).ae (gt l (i:Int)).kind (gt l (i:Int)).owner (gt l (i:Int)).key (gt l (i:Int)).seq (gt l (i:Int)).aV (gt l (i:Int)).cost (gt l (i:Int)).eY mr
   refine⟨⟨by rw[Eg];exact Ef hS _,by unfold li;split;(· show(K++[_]).length<=_;simp;omega);(· show K.length<=_;omega)⟩,λq=>?_⟩
   unfold li
   unfold nX at e1
   cases hb:pf S (gt l (i:Int))with
   |true=>
    rw[if_pos hb,hb]at e1
    simp(disch:=omega) only[↓pQ,pS,↓reduceIte,aj,ak,ap,aq,au,av,aw,ax,ay,Sj,hi,e1,e2]
   |false=>
    rw[if_neg (by rw[hb];simp),hb]at e1
    simp(disch:=omega) only[↓pQ,pS,↓reduceIte,aj,ak,ap,aq,au,av,aw,ax,ay,Sj,hi,e1,dh]
  ·rintro⟨S,K⟩ q ⟨hS,hK⟩
   have hS:df S=true:=hS
   have hSl:=wo hS
   simp(disch:=omega) only[↓pQ,pS,↓reduceIte,aj,ak,ap,aq,au,av,aw,ax,ay,Sj,P7 S (by omega) (SB hS)]
def vH(n:Nat)(s:List ah):Prop:=df s=true∧s.length<=n∧(∀r∈s,r.seq<=5)∧(s.filter sB).length+(if n<100 then 0 else 119)<=n
theorem vH.ins{n:Nat}{s:List ah}(h:vH n s){r:ah}(hr:r.seq<=5)(hn:n≠99):vH (n+1) (nX s r):=by
 refine⟨Ef h.1 r,?_,λx hx=>?_,?_⟩
 ·have:=h.2.1
  unfold nX
  split
  ·have:=IF s r;omega
  ·omega
 ·unfold nX at hx
  split at hx
  ·rcases AY hx with rfl|hx
   ·exact hr
   ·exact h.2.2.1 x hx
  ·exact h.2.2.1 x hx
 ·have h3:=h.2.2.2
  have h4:=aey s r sB
  have:((nX s r).filter sB).length<=(s.filter sB).length+1:=by
   unfold nX
   split
   ·split at h4<;>omega
   ·omega
  split at h3<;>split<;>omega
theorem vH.nil:vH 0 []:=⟨rfl,by simp,by simp,by simp⟩
theorem vH.mono{n m:Nat}{s:List ah}(h:vH n s)(hm:n<=m)(hk:n+119<=m∨100<=n∨m<100):vH m s:=by
 refine⟨h.1,Nat.le_trans h.2.1 hm,h.2.2.1,?_⟩
 have h3:=h.2.2.2
 have h4:(s.filter sB).length<=n:=Nat.le_trans (List.length_filter_le _ _) h.2.1
 split at h3<;>split<;>omega
def Am(P:List (Int×Int)):List Int:=P.flatMap λp=>[p.1,p.2]
theorem ae5(P:List (Int×Int)):(Am P).length=2*P.length:=by
 induction P with
 |nil=>rfl
 |cons p P ih=>show(p.1::p.2::Am P).length=_;simp[ih];omega
theorem ae6:∀(P:List (Int×Int)) (k:Nat) (h:k<P.length),(Am P)[2*k]?=some P[k].1∧(Am P)[2*k+1]?=some P[k].2
 |p::P,0,_=>⟨rfl,rfl⟩
 |p::P,k+1,h=>by
  have ih:=ae6 P k (by simpa using h)
  show(p.1::p.2::Am P)[2*(k+1)]?=_∧(p.1::p.2::Am P)[2*(k+1)+1]?=_
  rw[show 2*(k+1)=2*k+1+1 by omega]
  simpa using ih
def Jo(p q:Int×Int):Prop:=p.1<q.1∨p.1=q.1∧p.2<q.2
theorem axY{ok:Int->Int->Bool}{P:List (Int×Int)}(h1:P.Pairwise Jo)(h2:∀p∈P,ok p.1 p.2=true):z' ok (Am P)=true:=by
 unfold z'
 rw[bY,ae5]
 intro k hk
 have nI:k<P.length:=by omega
 have g:∀k:Nat,(h:k<P.length)->gt (Am P) (2*(k:Int))=P[k].1∧gt (Am P) (2*(k:Int)+1)=P[k].2:=by
  intro k h
  have:=ae6 P k h
  rw[show(2*(k:Int))=((2*k:Nat):Int) by omega,show(((2*k:Nat):Int)+1)=((2*k+1:Nat):Int) by omega]
  exact⟨MM this.1,MM this.2⟩
 obtain⟨g1,g2⟩:=g k nI
 rw[g1,g2]
 simp only[bD,Bool.or_eq_true,Bool.not_eq_true',decide_eq_false_iff_not,decide_eq_true_eq]
 refine⟨h2 _ (List.getElem_mem nI),?_⟩
 rcases Nat.eq_zero_or_pos k with h0|h0
 ·exact .inl (by omega)
 ·right
  obtain⟨g3,g4⟩:=g (k-1) (by omega)
  have e:2*((k-1:Nat):Int)=2*(k:Int)-2:=by omega
  rw[e]at g3
  rw[show 2*((k-1:Nat):Int)+1=2*(k:Int)-1 by omega]at g4
  rw[g3,g4]
  exact List.pairwise_iff_getElem.1 h1 (k-1) k (by omega) nI (by omega)
section
variable {B:List Int} (hB:∀x∈B,axF x) (hl:B.length<=1048576) {x:Net} (hx:yw x=true∧2<=x.n∧x.aM.length<=2) {id bh:Int} (gG:1<=id∧id<=x.n) (ki:0<=bh∧bh<=1)
 {P:List (Int×Int)} (hP1:P.Pairwise Jo) (hP2:∀p∈P,decide (0<=eV (iE id p.1 p.2) x.aE)=true)
include hB hl hx gG ki hP1 hP2
end
def An(r:ah):ah:=⟨r.ae,r.kind,r.owner,r.key,r.seq,[],if r.kind=3 then 1 else 0,false⟩
theorem ae7(a k o y s:Int)(t5 t6 t7:T):HA [ii a,ii k,ii o,ii y,ii s,t5,t6,t7]=some [ii a,ii k,ii o,ii y,ii s,.l [],ii (if k=3 then 1 else 0),bb false]:=by
 rw[as1]
 by_cases h:k=3
 ·subst h;simp(disch:=omega) only[↓pQ,pS,↓reduceIte,aj,ak,ap,aq,au,av,aw,ax,ay,Ii]
 ·simp(disch:=omega) only[↓pQ,pS,↓reduceIte,aj,ak,ap,aq,au,av,aw,ax,ay,Ii,h]
def wq(l:List ah)(i:Nat):List ah:=(l.take i).map An++l.drop i
theorem Q5(l:List ah)(i:Nat):(wq l i).length=l.length:=by unfold wq;simp;omega
theorem axZ{l:List ah}{i:Nat}(h:i<l.length):gt (wq l i) (i:Int)=gt l (i:Int):=by
 rw[eC (l:=wq l i) (by rw[Q5];exact h),eC h]
 unfold wq
 rw[List.getElem_append_right (by rw[List.length_map,List.length_take];omega)]
 simp[Nat.min_eq_left (Nat.le_of_lt h)]
theorem ax0{l:List ah}{i:Nat}(h:i<l.length):(wq l i).set i (An (gt l (i:Int)))=wq l (i+1):=by
 have hl:((l.take i).map An).length=i:=by rw[List.length_map,List.length_take];omega
 unfold wq
 rw[eC h,List.set_append_right _ _ (by omega),hl,Nat.sub_self,List.drop_eq_getElem_cons h,List.set_cons_zero,List.take_add_one,List.getElem?_eq_getElem h]
 simp only[Option.toList,List.map_append,List.map_cons,List.map_nil,List.append_assoc,List.cons_append,List.nil_append]
theorem ax1(s:List ah)(ar:Int)(h:s.length<=1048576)(hn:aR s):ZS [.l (s.map ai),ii ar]=some [.l (((scope s ar).map An).map ai)]:=by
 have hl:(scope s ar).length<=s.length:=List.length_filter_le _ _
 rw[as3];simp(disch:=omega) only[↓pQ,pS,↓reduceIte,aj,ak,ap,aq,au,av,aw,ax,ay,jw_,OQ,P5 s ar h hn]
 generalize scope s ar=l at hl
 refine P9 (λi=>[ii (i:Int),.l ((wq l i).map ai)]) l.length rfl (dG (by omega)) ?_ ?_
 ·intro i hi q
  have eg:i<l.length:=by omega
  have g0:=axZ eg
  have hL:=Q5 l i
  have hs:=ax0 eg
  have p:Prim.ev (.put false 8 0 8) [.l ((wq l i).map ai),ii (i:Int),ii (gt l (i:Int)).ae,ii (gt l (i:Int)).kind,ii (gt l (i:Int)).owner,ii (gt l (i:Int)).key,ii (gt l (i:Int)).seq,.l [],ii (if(gt l (i:Int)).kind=3 then 1 else 0),bb false]=some (.l ((wq l (i+1)).map ai)):=by
   have:=Km (enc:=ai) (sc:=false) (w:=8) (off:=0) (m:=8) (l:=wq l i) (n:=(i:Int)) (vs:=ai (An (gt l (i:Int)))) (x:=An (gt l (i:Int))) (by omega) (by omega) (λ_=>rfl) (by decide) rfl rfl rfl
   rw[Int.toNat_natCast,hs]at this
   exact this
  generalize wq l (i+1)=L2 at p hs
  generalize wq l i=L at*
  have e1:(i:Int)<L.length:=by omega
  simp(disch:=omega) only[↓pQ,pS,↓reduceIte,aj,ak,ap,aq,au,av,aw,ax,ay,jw_,e1,g0,ae7,p]
 ·intro q
  have hz:¬((l.length:Int)<(wq l l.length).length):=by rw[Q5];omega
  simp(disch:=omega) only[↓pQ,pS,↓reduceIte,aj,ak,ap,aq,au,av,aw,ax,ay,jw_,hz]
  unfold wq
  simp
theorem ax2(r:ah):dO (gd r) r=true:=by
 unfold gd
 split<;>(rw[sameKey_iff];exact⟨rfl,rfl,rfl,rfl⟩)
theorem Eh(x:Self)(r:ah):dO (xA x r) r=true:=ax2 r
theorem ko_(x:Self)(r:ah):dO (xy x r) r=true:=by rw[sameKey_iff];exact⟨rfl,rfl,rfl,rfl⟩
theorem ae9{a b:ah}(h:¬dO a b=true):dO a b=false:=by
 cases hc:dO a b with
 |false=>rfl
 |true=>exact absurd hc h
theorem Jp{s:List ah}(h:gZ s){f:ah->ah}(hf:∀r,dO (f r) r=true):s.Pairwise λa b=>dO (f a) (f b)=false:=by
 refine List.Pairwise.imp (λ{a b} ln=>ae9 λhc=>?_) h
 have h1:=uS_ ln
 rw[ur (D9 (hf a)) (ur hc (hf b))]at h1
 cases h1
theorem Jq{f:ah->ah}:∀{l s:List ah},gZ s->gZ (eM f s l)
 | [],_,h=>h
 |a::l,s,h=>Jq (l:=l) (Kj h (f a))
theorem Ei{f:ah->ah}{p:ah->Bool}:∀(l c:List ah),l.foldl (λc r=>if p r=true then cM c (f r)else c) c=eM f c (l.filter p)
 | [],c=>rfl
 |a::l,c=>by
  rw[List.foldl_cons,Ei l,List.filter_cons]
  cases h:p a<;>rfl
theorem Q6{x:Self}{W:List ah}(hW:gZ W)(hs:gZ x.store){r:ah}:r∈rh x W↔(∃w∈W,re x.store w=true∧r=xy x w)∨∃o∈x.store,tQ x W o=true∧r=xA x o:=by
 have e1:W.foldl (rf x) []=eM (xy x) [] (W.filter (re x.store)):=Ei (f:=xy x) (p:=re x.store) W []
 have e2:rh x W=eM (xA x) (W.foldl (rf x) []) (x.store.filter (tQ x W)):=Ei (f:=xA x) (p:=tQ x W) x.store _
 rw[e2,Kw ((Jp hs (Eh x)).filter _),e1,Kw ((Jp hW (ko_ x)).filter _)]
 constructor
 ·rintro(⟨o,ho,e⟩|⟨⟨w,hw,e⟩|⟨h,_⟩,_⟩)
  ·obtain⟨h1,h2⟩:=List.mem_filter.1 ho
   exact .inr ⟨o,h1,h2,e⟩
  ·obtain⟨h1,h2⟩:=List.mem_filter.1 hw
   exact .inl ⟨w,h1,h2,e⟩
  ·cases h
 ·rintro(⟨w,hw,h,e⟩|⟨o,ho,h,e⟩)
  ·refine .inr ⟨.inl ⟨w,List.mem_filter.2 ⟨hw,h⟩,e⟩,λo ho=>ae9 λhc=>?_⟩
   obtain⟨_,h2⟩:=List.mem_filter.1 ho
   unfold tQ at h2
   simp only[bD,decide_eq_true_eq]at h2
   have h3:=axN h2.2.1 w hw
   rw[ur (D9 (ko_ x w)) (ur (e▸hc) (Eh x o))]at h3
   cases h3
  ·exact .inl ⟨o,List.mem_filter.2 ⟨ho,h⟩,e⟩
theorem jb_(x:Self)(W:List ah):gZ (rh x W):=by
 have e1:W.foldl (rf x) []=eM (xy x) [] (W.filter (re x.store)):=Ei (f:=xy x) (p:=re x.store) W []
 have e2:rh x W=eM (xA x) (W.foldl (rf x) []) (x.store.filter (tQ x W)):=Ei (f:=xA x) (p:=tQ x W) x.store _
 rw[e2,e1]
 exact Jq (Jq .nil)
theorem xC{s N:List ah}(hN:gZ N){r:ah}:r∈eM same s N↔r∈N∨(r∈s∧∀o∈N,dO r o=false):=by
 rw[Kw (f:=same) (Jp hN λr=>E9 r)]
 constructor
 ·rintro(⟨o,ho,e⟩|h)
  ·exact .inl (e▸ho)
  ·exact .inr h
 ·rintro(h|h)
  ·exact .inl ⟨r,h,rfl⟩
  ·exact .inr h
theorem Ao{f:ah->ah}{x:ah}:∀{l s:List ah},x∈eM f s l->x∈s∨∃y∈l,x=f y
 | [],s,h=>.inl h
 |a::l,s,h=>by
  rcases Ao (l:=l) h with h|⟨y,hy,e⟩
  ·rcases AY h with h|h
   ·exact .inr ⟨a,.head _,h⟩
   ·exact .inl h
  ·exact .inr ⟨y,.tail _ hy,e⟩
theorem ax3{x:Self}{S:List ah}{w:ah}(h:w∈nk x S):w∈fJ x∨w∈pe x S∨w∈Jb x:=by
 rcases Ao h with h|⟨y,hy,e⟩
 ·cases h
 ·rw[e]
  rcases List.mem_append.1 hy with hy|hy
  ·rcases List.mem_append.1 hy with hy|hy
   ·exact .inl hy
   ·exact .inr (.inl hy)
  ·exact .inr (.inr hy)
theorem Q7(x:Self)(S:List ah):gZ (nk x S):=Jq .nil
theorem ax4{x:Self}{S:List ah}{w:ah}(h:w∈nk x S):w.owner=x.id∧(w.kind=3->w∈Jb x):=by
 rcases ax3 h with h|h|h
 ·have:=Al h
  exact⟨this.2.2.1,λhk=>by omega⟩
 ·unfold pe at h
  split at h
  ·obtain⟨a,_,h⟩:=List.mem_flatMap.1 h
   have:=QX h
   exact⟨this.2.2.1,λhk=>by omega⟩
  ·cases h
 ·refine⟨?_,λ_=>h⟩
  obtain⟨t,_,rfl⟩:=List.mem_map.1 h
  rfl
section
variable {x:Self} {Q:Int} {k:Nat} (h:kf x=true) (hb:x.bh<=1) (hq:(∀r∈x.store,r.seq<=Q)∧0<=Q∧Q<=90000) (h3:(x.store.filter sB).length<=k∧k<=22) (ht:x.net.aM.length<=2)
def Jr(x:Self):List ah:=rh x (nk x (rF x.store x.id (fJ x)))
def xD(x:Self):List ah:=eM same x.store (Jr x)
include h hb hq in
theorem ae'{r:ah}(hr:r∈Jr x):r.seq<=Q+1001∧1000*x.bh<r.seq∧nW x.store r<r.seq:=by
 obtain⟨hN,gG,ki,jy,ua,cf⟩:=qi h
 have sC:=tH cf
 have ho:∀q:ah,0<=nW x.store q∧nW x.store q<=Q:=by
  intro q
  refine⟨(Jg cf q).1,?_⟩
  unfold nW
  split
  ·omega
  ·exact hq.1 _ (Jl (s:=x.store) (r:=q) (by omega)).1
 have hs:∀q:ah,tO x q<=Q+1001∧1000*x.bh<tO x q∧nW x.store q<tO x q:=by
  intro q
  have:=ho q
  unfold tO
  split<;>omega
 have hk:∀{a b:ah},dO a b=true->nW x.store a=nW x.store b:=by
  intro a b ln
  have e:bn x.store a=bn x.store b:=by
   unfold bn
   congr 1
   funext y
   rw[Bool.eq_iff_iff]
   exact⟨λhh=>ur hh ln,λhh=>ur hh (D9 ln)⟩
  unfold nW
  rw[e]
 rcases(Q6 (Q7 _ _) sC).1 hr with⟨w,hw,_,e⟩|⟨o,_,hg,e⟩
 ·rw[hk (e▸ko_ x w:dO r w=true),e]
  exact hs w
 ·rw[hk (e▸Eh x o:dO r o=true),e]
  exact hs o
include h hb hq in
theorem afa:((Jr x).all λr=>decide (r.seq<=100000))=true:=by
 rw[List.all_eq_true]
 intro r hr
 have:=ae' h hb hq hr
 rw[decide_eq_true_eq];omega
include h hb hq in
theorem ax5{r:ah}(hr:r∈xD x):eW r=true:=by
 have cf:=(qi h).2.2.2.2.2
 rcases(xC (jb_ _ _)).1 hr with hr|⟨hr,_⟩
 ·exact aeW h _ (afa h hb hq) r hr
 ·exact DT cf hr
include h h3 ht in
theorem ax6:((xD x).filter sB).length<=k+2:=by
 have cf:=(qi h).2.2.2.2.2
 have sC:=tH cf
 have f1:Fit k (x.store.filter sB):=⟨sC.filter _,λr hr=>SB cf r (List.mem_filter.1 hr).1,h3.1⟩
 have hl:=aeF x
 have f2:=Fit.mb (f:=same) (l:=Jb x) (λr hr=>by obtain⟨t,_,rfl⟩:=List.mem_map.1 hr;simp[same,rb]) f1
 refine Nat.le_trans (uo_ ((Jq sC).filter sB) f2.so λr hr=>?_) (Nat.le_trans f2.len (by omega))
 obtain⟨hr,hk⟩:=List.mem_filter.1 hr
 have nI:r.kind=3:=by simpa[sB]using hk
 rcases(xC (jb_ _ _)).1 hr with hr|⟨hr,_⟩
 ·rcases(Q6 (Q7 _ _) sC).1 hr with⟨w,hw,_,e⟩|⟨o,ho,_,e⟩
  ·exact cr.nV (z:=w) (e▸ko_ x w) ((ax4 hw).2 (by rw[e]at nI;exact nI))
  ·have x9:=Eh x o
   refine cr.mb ⟨o,List.mem_filter.2 ⟨ho,?_⟩,e▸x9⟩
   have:=(sameKey_iff.1 x9).2.1
   rw[e]at nI
   simp[sB,<-this,nI]
 ·exact cr.mb ⟨r,List.mem_filter.2 ⟨hr,hk⟩,E9 r⟩
include h hb hq h3 ht in
theorem afb:qh (k+2) (xD x):=⟨Jq (tH (qi h).2.2.2.2.2),λr hr=>ax5 h hb hq hr,ax6 h h3 ht⟩
include h hb hq h3 ht in
theorem ax7:jN x=({x with store:=xD x},Jr x):=by
 unfold jN
 rw[if_pos h]
 unfold wm
 have:=(afb h hb hq h3 ht).len
 exact if_pos ⟨afa h hb hq,by show(xD x).length<=150;omega⟩
end
def uv(e:dk):Int×Int:=(e.node,e.ae)
def nY(ls:List bO)(id m a:Int)(c:List dk):Prop:=(c.Pairwise λx y=>Jo (uv x) (uv y))∧∀e∈c,0<=eV (iE id e.node e.ae) ls∧(e.node<m∨e.node=m∧e.ae<a)
theorem nY.step{ls:List bO}{id:Int}{v a:Nat}{c:List dk}(h:nY ls id ((v:Int)+1) a c):nY ls id ((v:Int)+1) ((a:Int)+1) (oq ls id v c a):=by
 unfold oq
 split
 ·rename_i hf
  refine⟨List.pairwise_append.2 ⟨h.1,List.pairwise_singleton _ _,λx hx y hy=>?_⟩,λe he=>?_⟩
  ·rw[List.mem_singleton]at hy
   rw[hy]
   exact(h.2 x hx).2
  ·rcases List.mem_append.1 he with he|he
   ·have:=h.2 e he
    exact⟨this.1,by omega⟩
   ·rw[List.mem_singleton]at he
    rw[he]
    exact⟨hf,.inr ⟨rfl,by show(a:Int)<(a:Int)+1;omega⟩⟩
 ·refine⟨h.1,λe he=>?_⟩
  have:=h.2 e he
  exact⟨this.1,by omega⟩
theorem nY.row{ls:List bO}{id:Int}{v:Nat}{c:List dk}(h:nY ls id ((v:Int)+1) 0 c):nY ls id ((v:Int)+1+1) 0 (yx ls id c v):=by
 have h0:nY ls id ((v:Int)+1) ((0:Nat):Int) c:=h
 have h1:=h0.step
 have h1:nY ls id ((v:Int)+1) ((1:Nat):Int) (oq ls id v c 0):=h1
 have h2:=h1.step
 have h2:nY ls id ((v:Int)+1) ((2:Nat):Int) (oq ls id v (oq ls id v c 0) 1):=h2
 have h3:=h2.step
 show nY ls id ((v:Int)+1+1) 0 (oq ls id v (oq ls id v (oq ls id v c 0) 1) 2)
 refine⟨h3.1,λe he=>?_⟩
 have:=h3.2 e he
 exact⟨this.1,by omega⟩
theorem Q8(ls:List bO)(id:Int):∀k:Nat,nY ls id ((k:Int)+1) 0 ((List.range k).foldl (yx ls id) [])
 |0=>⟨.nil,by simp⟩
 |k+1=>by
  rw[List.range_succ,List.foldl_append]
  have:=(Q8 ls id k).row
  show nY ls id (((k+1:Nat):Int)+1) 0 (yx ls id _ k)
  rw[show(((k+1:Nat):Int)+1)=(k:Int)+1+1 by omega]
  exact this
theorem ax8(es:List dk):kj es=Am ((es.filter λe=>e.both).map uv):=by
 have:∀(l:List dk) (c:List Int),l.foldl DL c=c++Am ((l.filter λe=>e.both).map uv):=by
  intro l
  induction l with
  |nil=>intro c;simp[Am]
  |cons e l ih=>
   intro c
   rw[List.foldl_cons,ih,List.filter_cons]
   unfold DL
   cases hb:e.both with
   |true=>simp[Am,uv]
   |false=>simp
 exact this es []
def fj(x:Self)(es:List dk):Prop:=es.map uv=(q8 x.net.aE x.id x.net.n).map uv
theorem Ej{n:Node}(h:l_ n=true):fj n.self n.cU:=by
 obtain⟨_,hl,_⟩:=A0 h
 unfold l_ DM at h
 simp only[bD,decide_eq_true_eq]at h
 have ha:=bY.1 h.2.1.2
 refine List.ext_getElem (by simp[hl]) λi h1 h2=>?_
 rw[List.length_map]at h1 h2
 have:=ha i h1
 unfold AW at this
 simp only[bD,decide_eq_true_eq]at this
 rw[List.getElem_map,List.getElem_map,<-eC h1,<-eC h2]
 exact Prod.ext this.1 this.2.1
theorem fj.heard{x:Self}{es:List dk}(h:fj x es)(hn:0<=x.net.n):(kj es).length%2=0∧z' (λv a=>decide (0<=eV (iE x.id v a) x.net.aE)) (kj es)=true:=by
 have hA:=Q8 x.net.aE x.id x.net.n.toNat
 have hA:nY x.net.aE x.id ((x.net.n.toNat:Int)+1) 0 (q8 x.net.aE x.id x.net.n):=hA
 have hp:(es.map uv).Pairwise Jo:=by
  rw[h]
  exact List.pairwise_map.2 hA.1
 rw[ax8]
 refine⟨by rw[ae5];omega,axY (List.pairwise_map.2 ((List.pairwise_map.1 hp).filter _)) λp s8=>?_⟩
 obtain⟨e,he,rfl⟩:=List.mem_map.1 s8
 have:uv e∈(q8 x.net.aE x.id x.net.n).map uv:=by rw[<-h];exact List.mem_map_of_mem (List.mem_filter.1 he).1
 obtain⟨e',he',e1⟩:=List.mem_map.1 this
 rw[decide_eq_true_eq,<-e1]
 exact(hA.2 e' he').1
theorem Q9{x:Self}(h:kf x=true){es:List dk}(he:fj x es):kf {x with heard:=kj es}=true:=by
 have hn:=(yE (qi h).1).1
 obtain⟨h1,h2⟩:=he.heard (by omega)
 unfold kf at h⊢
 simp only[bD,decide_eq_true_eq,bg]at h⊢
 exact⟨h.1,h.2.1,h.2.2.1,⟨h1,h2⟩,h.2.2.2.2⟩
theorem ax9{x:Self}{es:List dk}(h:fj x es):fj x (es.map AZ):=by
 unfold fj at h⊢
 rw[List.map_map]
 exact h
structure Ek (Q:Int) (k:Nat) (n:Node):Prop where
 ok:l_ n=true
 bh:n.self.bh<=1
 seq:∀r∈n.self.store,r.seq<=Q
 three:(n.self.store.filter sB).length<=k
 aM:n.self.net.aM.length<=2
theorem ax_{w e:dk}(h:AW w e=true):AW w (AZ e)=true:=by
 unfold AW at h⊢
 simp only[bD,bg,decide_eq_true_eq,Bool.not_eq_true']at h⊢
 refine⟨h.1,h.2.1,?_,?_⟩
 ·show 0<=(if 0>e.left-1 then 0 else e.left-1)∧(if 0>e.left-1 then 0 else e.left-1)<=3
  split<;>omega
 ·show(e.both&&decide ((if 0>e.left-1 then 0 else e.left-1)>0)&&decide ((if 0>e.left-1 then 0 else e.left-1)=0))=false
  by_cases h0:(if 0>e.left-1 then 0 else e.left-1)=0
  ·rw[h0];simp
  ·simp[h0]
theorem Ek.tick{Q:Int}{k:Nat}{n:Node}(h:Ek Q k n)(hQ:0<=Q∧Q<=90000)(hk:k<=22):Ek (Q+1001) (k+2) (Jk n)∧(Jk n).self={n.self with heard:=kj (n.cU.map AZ),store:=xD {n.self with heard:=kj (n.cU.map AZ)}}:=by
 obtain⟨x,es⟩:=n
 obtain⟨cV,hb,hq,h3,ht⟩:=h
 simp only at hb hq h3 ht
 have hA:=ax9 (Ej cV)
 obtain⟨hs,ED,_⟩:=A0 cV
 simp only at hs ED
 have hx:=Q9 hs hA
 have mc:(∀r∈({x with heard:=kj (es.map AZ)}:Self).store,r.seq<=Q)∧0<=Q∧Q<=90000:=⟨hq,hQ⟩
 have RO:(({x with heard:=kj (es.map AZ)}:Self).store.filter sB).length<=k∧k<=22:=⟨h3,hk⟩
 have r1:=ax7 hx hb mc RO ht
 have r2:=afb hx hb mc RO ht
 have e:Jk ⟨x,es⟩=⟨{x with heard:=kj (es.map AZ),store:=xD {x with heard:=kj (es.map AZ)}},es.map AZ⟩:=by
  unfold Jk
  simp only
  rw[r1]
 rw[e]
 refine⟨⟨?_,hb,λr hr=>?_,r2.2.2,ht⟩,rfl⟩
 ·unfold l_ DM
  simp only[bD,decide_eq_true_eq]
  refine⟨Jn hx (r2.ok (by omega)),⟨by rw[List.length_map,ED],bY.2 λi hi=>?_⟩,?_⟩
  ·rw[List.length_map]at hi
   have h1:l_ ⟨x,es⟩=true:=cV
   unfold l_ DM at h1
   simp only[bD,decide_eq_true_eq]at h1
   have:=ax_ (bY.1 h1.2.1.2 i hi)
   rw[eC (l:=es.map AZ) (by simpa using hi),List.getElem_map,<-eC hi]
   exact this
  ·rw[ju]
 ·rcases(xC (jb_ _ _)).1 hr with hr|⟨hr,_⟩
  ·exact(ae' hx hb mc hr).1
  ·have:=hq r hr
   omega
theorem ax'{s:List dk}{n v:Int}(h:0<=n)(h':n<s.length):Prim.ev (.put true 4 2 1) [.l (s.map b8),ii n,ii v]=some (.l ((s.set n.toNat {gt s n with left:=v}).map b8)):=
 Km (enc:=b8) (x:={gt s n with left:=v}) h h' (λ_=>rfl) (by decide) rfl rfl rfl
theorem aya{s:List dk}{n:Int}{v:Bool}(h:0<=n)(h':n<s.length):Prim.ev (.put true 4 3 1) [.l (s.map b8),ii n,bb v]=some (.l ((s.set n.toNat {gt s n with both:=v}).map b8)):=
 Km (enc:=b8) (x:={gt s n with both:=v}) h h' (λ_=>rfl) (by decide) rfl rfl rfl
def Ap(e:dk):Prop:=(0<=e.left∧e.left<=3)∧(e.both=true->e.left≠0)
theorem ayb{x:Self}{es:List dk}(h:kf x=true)(hA:fj x es)(hL:∀e∈es,Ap e):l_ ⟨{x with heard:=kj es},es⟩=true:=by
 have hlen:es.length=(q8 x.net.aE x.id x.net.n).length:=by have:=congrArg List.length hA;simpa using this
 unfold l_ DM
 simp only[bD,decide_eq_true_eq]
 refine⟨Q9 h hA,⟨by omega,bY.2 λi hi=>?_⟩,by rw[ju]⟩
 have nw:i<(q8 x.net.aE x.id x.net.n).length:=by omega
 have e1:uv es[i]=uv (q8 x.net.aE x.id x.net.n)[i]:=by
  have h1:(es.map uv)[i]'(by simpa using hi)=((q8 x.net.aE x.id x.net.n).map uv)[i]'(by simpa using nw):=by
   congr 1
  rw[List.getElem_map,List.getElem_map]at h1
  exact h1
 have h1:=(Prod.mk.inj e1).1
 have h2:=(Prod.mk.inj e1).2
 obtain⟨h3,h4⟩:=hL _ (List.getElem_mem hi)
 rw[eC hi,eC nw]
 unfold AW
 simp only[bD,bg,decide_eq_true_eq,Bool.not_eq_true']
 refine⟨h1,h2,h3,?_⟩
 cases hb:es[i].both with
 |false=>rfl
 |true=>simpa using h4 hb
theorem afc(s:List ah)(r:ah)(t5 t6 t7:T)(h:s.length<=1048576):sw [.l (s.map ai),ii r.ae,ii r.kind,ii r.owner,ii r.key,ii r.seq,t5,t6,t7]=some [ii (bn s r)]:=IB s r.ae r.kind r.owner r.key (ii r.seq) t5 t6 t7 h
theorem ayc(s:List ah)(r:ah)(t5 t6 t7:T)(h:s.length<=1048576):ye [.l (s.map ai),ii r.ae,ii r.kind,ii r.owner,ii r.key,ii r.seq,t5,t6,t7]=some [ii (bn s r)]:=DO s r.ae r.kind r.owner r.key (ii r.seq) t5 t6 t7 h
def yG(t:List ah)(r:ah):Bool:=decide (bn t r<0)||decide ((gt t (bn t r)).seq<r.seq)
def ov(s t:List ah):List ah:=s.filter (yG t)
theorem afd(s t:List ah)(h:s.length<=1048576)(hn:aR s)(ht:t.length<=1048576):DD [.l (s.map ai),.l (t.map ai)]=some [.l ((ov s t).map ai)]:=by
 rw[au7];simp(disch:=omega) only[↓pQ,pS,↓reduceIte,aj,ak,ap,aq,au,av,aw,ax,ay,Sk,PQ]
 refine(iP s (λi c=>[.l (c.map ai),ii i]) (λc a=>if yG t a=true then c++[a]else c) (λc=>some [T.l (c.map ai)]) [] (λi c=>c.length<=i) rfl (dG h) (by simp) ?_ ?_).trans (by rw[Hb,List.nil_append,<-ov])
 ·intro i c hi hc
  refine⟨by split<;>(try simp)<;>omega,λk=>?_⟩
  have h0:=hn.gt (n:=i) (by omega) hi
  have hk:=afc t (gt s i) (.l ((gt s i).aV.map fe)) (ii (gt s i).cost) (bb (gt s i).eY) ht
  have bf:=Jf t (gt s i)
  unfold yG
  by_cases c1:bn t (gt s i)<0
  ·simp(disch:=omega) only[↓pQ,pS,↓reduceIte,aj,ak,ap,aq,au,av,aw,ax,ay,Sk,hi,Ki,hk,c1]
  ·have c2:0<=bn t (gt s i):=by omega
   by_cases c3:(gt t (bn t (gt s i))).seq<(gt s i).seq
   ·simp(disch:=omega) only[↓pQ,pS,↓reduceIte,aj,ak,ap,aq,au,av,aw,ax,ay,Sk,hi,Ki,hk,c1,c2,c3,bf]
   ·simp(disch:=omega) only[↓pQ,pS,↓reduceIte,aj,ak,ap,aq,au,av,aw,ax,ay,Sk,hi,Ki,hk,c1,c2,c3,bf]
 ·intro c k hc
  simp(disch:=omega) only[↓pQ,pS,↓reduceIte,aj,ak,ap,aq,au,av,aw,ax,ay,Sk,]
theorem afe(s t:List ah)(h:s.length<=1048576)(hn:aR s)(ht:t.length<=1048576):Dy [.l (s.map ai),.l (t.map ai)]=some [.l ((ov s t).map ai)]:=by
 rw[auN];simp(disch:=omega) only[↓pQ,pS,↓reduceIte,aj,ak,ap,aq,au,av,aw,ax,ay,Sh,PJ]
 refine(iP s (λi c=>[.l (c.map ai),ii i]) (λc a=>if yG t a=true then c++[a]else c) (λc=>some [T.l (c.map ai)]) [] (λi c=>c.length<=i) rfl (dG h) (by simp) ?_ ?_).trans (by rw[Hb,List.nil_append,<-ov])
 ·intro i c hi hc
  refine⟨by split<;>(try simp)<;>omega,λk=>?_⟩
  have h0:=hn.gt (n:=i) (by omega) hi
  have hk:=ayc t (gt s i) (.l ((gt s i).aV.map fe)) (ii (gt s i).cost) (bb (gt s i).eY) ht
  have bf:=Jf t (gt s i)
  unfold yG
  by_cases c1:bn t (gt s i)<0
  ·simp(disch:=omega) only[↓pQ,pS,↓reduceIte,aj,ak,ap,aq,au,av,aw,ax,ay,Sh,hi,AX,hk,c1]
  ·have c2:0<=bn t (gt s i):=by omega
   by_cases c3:(gt t (bn t (gt s i))).seq<(gt s i).seq
   ·simp(disch:=omega) only[↓pQ,pS,↓reduceIte,aj,ak,ap,aq,au,av,aw,ax,ay,Sh,hi,AX,hk,c1,c2,c3,bf]
   ·simp(disch:=omega) only[↓pQ,pS,↓reduceIte,aj,ak,ap,aq,au,av,aw,ax,ay,Sh,hi,AX,hk,c1,c2,c3,bf]
 ·intro c k hc
  simp(disch:=omega) only[↓pQ,pS,↓reduceIte,aj,ak,ap,aq,au,av,aw,ax,ay,Sh,]
def fk(es:List dk)(node ae:Int):Int:=eV (λe=>e.node==node&&e.ae==ae) es
theorem ayd(t0 t1 t2 t3 t4 t5 t6:T)(es:List dk)(node ae:Int)(h:es.length<=1048576):DA [t0,t1,t2,t3,t4,t5,t6,.l (es.map b8),ii node,ii ae]=some [ii (fk es node ae)]:=by
 rw[auX];simp(disch:=omega) only[↓pQ,pS,↓reduceIte,aj,ak,ap,aq,au,av,aw,ax,ay,Iu,PM]
 refine(EQ es (λi=>[ii 0,ii i]) (λe=>e.node==node&&e.ae==ae) (λj=>some [ii j]) (kE:=some [ii (-1)]) rfl (dG h) ?_ ?_).trans ?_
 ·intro i hi q
  simp(disch:=omega) only[↓pQ,pS,↓reduceIte,aj,ak,ap,aq,au,av,aw,ax,ay,Iu,hi]
  grind
 ·intro q
  simp(disch:=omega) only[↓pQ,pS,↓reduceIte,aj,ak,ap,aq,au,av,aw,ax,ay,Iu,]
 ·unfold fk
  have:=MY (λe:dk=>e.node==node&&e.ae==ae) es
  split
  ·congr 2;congr 1;omega
  ·rfl
theorem aye(t0 t1 t2 t3 t4 t5 t6:T)(es:List dk)(node ae:Int)(h:es.length<=1048576):Dx [t0,t1,t2,t3,t4,t5,t6,.l (es.map b8),ii node,ii ae]=some [ii (fk es node ae)]:=by
 rw[auH];simp(disch:=omega) only[↓pQ,pS,↓reduceIte,aj,ak,ap,aq,au,av,aw,ax,ay,ks_,PH]
 refine(EQ es (λi=>[ii 0,ii i]) (λe=>e.node==node&&e.ae==ae) (λj=>some [ii j]) (kE:=some [ii (-1)]) rfl (dG h) ?_ ?_).trans ?_
 ·intro i hi q
  simp(disch:=omega) only[↓pQ,pS,↓reduceIte,aj,ak,ap,aq,au,av,aw,ax,ay,ks_,hi]
  grind
 ·intro q
  simp(disch:=omega) only[↓pQ,pS,↓reduceIte,aj,ak,ap,aq,au,av,aw,ax,ay,ks_,]
 ·unfold fk
  have:=MY (λe:dk=>e.node==node&&e.ae==ae) es
  split
  ·congr 2;congr 1;omega
  ·rfl
def rY(l:List Int):Bool:=ei (λx=>gj x 1 6) (λa b=>!decide (a>=b)) l
def ri(r:ah):Bool:=wi (tS r) r
def yH(p:aW):Bool:=
 gj p.kind 1 3&&gj p.gp 1 6&&gj p.to 1 6&& !(p.gp==p.to)&&gj p.ae 0 2&&rY p.heard&&
  (if p.kind=1 then decide (p.list.length=0)else decide (p.heard.length=0))&&df p.list&&p.list.all (λr=>ot p.ae r&&(!(p.kind==2)||ri r))
theorem ayf(l:List Int)(h:l.length<=1048576):j9_ [.l (l.map aB)]=some [bb (rY l)]:=by
 rw[auZ];simp(disch:=omega) only[↓pQ,pS,↓reduceIte,aj,ak,ap,aq,au,av,aw,ax,ay,jS_,PN]
 refine(uf l.length (λi=>[bb false,ii i]) (λi=>gj (gt l i) 1 6&&(!decide ((i:Int)>0)|| !decide (gt l (i-1:Int)>=gt l i))) (fE:=some [bb false]) (gW:=some [bb true]) rfl (dG h) ?_ ?_).trans (jL _ _ _ |>.trans (by unfold rY ei;grind))
 ·intro i hi s1
  simp(disch:=omega) only[↓pQ,pS,↓reduceIte,aj,ak,ap,aq,au,av,aw,ax,ay,jS_,hi,vA]
  grind
 ·intro s1
  simp(disch:=omega) only[↓pQ,pS,↓reduceIte,aj,ak,ap,aq,au,av,aw,ax,ay,jS_,]
theorem Q_{l:List ah}{p:ah->Bool}:kC l.length (λi=>p (gt l i))=l.all p:=by
 rw[Bool.eq_iff_iff,bY,List.all_eq_true]
 constructor
 ·intro h x hx
  obtain⟨i,hi,rfl⟩:=List.mem_iff_getElem.1 hx
  have:=h i hi
  rwa[eC hi]at this
 ·intro h i hi
  rw[eC hi]
  exact h _ (List.getElem_mem hi)
theorem ayg(s:List ah)(h:s.length<=1048576)(hn:aR s):DB [.l (s.map ai)]=some [bb (s.all ri)]:=by
 rw[au1];simp(disch:=omega) only[↓pQ,pS,↓reduceIte,aj,ak,ap,aq,au,av,aw,ax,ay,kv_,PO]
 refine(uf s.length (λi=>[bb false,ii i]) (λi=>ri (gt s i)) (fE:=some [bb false]) (gW:=some [bb true]) rfl (dG h) ?_ ?_).trans (jL _ _ _ |>.trans (by rw[Q_];grind))
 ·intro i hi s1
  have h1:=aeX (gt s i).ae (gt s i).kind (gt s i).owner (gt s i).key (gt s i).seq (.l ((gt s i).aV.map fe)) (ii (gt s i).cost) (bb (gt s i).eY)
  have h2:=P0 (gt s i).ae (gt s i).kind (gt s i).owner (gt s i).key (gt s i).seq [] (if(gt s i).kind=3 then 1 else 0) false (gt s i).ae (gt s i).kind (gt s i).owner (gt s i).key (gt s i).seq (gt s i).aV (gt s i).cost (gt s i).eY (by simp)
  rw[show(T.l (List.map fe []))=.l [] from rfl]at h2
  simp(disch:=omega) only[↓pQ,pS,↓reduceIte,aj,ak,ap,aq,au,av,aw,ax,ay,kv_,hi,h1,h2]
  unfold ri tS
  generalize wi _ (gt s (i:Int))=b
  cases b<;>rfl
 ·intro s1
  simp(disch:=omega) only[↓pQ,pS,↓reduceIte,aj,ak,ap,aq,au,av,aw,ax,ay,kv_,]
def xE(p:aW):Bool:=(if p.kind=1 then decide (p.list.length=0)else decide (p.heard.length=0))&&df p.list&&p.list.all (λr=>ot p.ae r&&(!(p.kind==2)||ri r))
theorem Jt(p:aW):yH p=(gj p.kind 1 3&&gj p.gp 1 6&&gj p.to 1 6&& !(p.gp==p.to)&&gj p.ae 0 2&&(rY p.heard&&xE p)):=by
 unfold yH xE
 simp only[Bool.and_assoc]
theorem ayh{p:aW}(h:p.kind=2∨p.kind=3):p.list.all (λr=>ot p.ae r&&(!(p.kind==2)||ri r))=(p.list.all (ot p.ae)&&(decide (p.kind=3)||p.list.all ri)):=by
 rcases h with h|h
 ·rw[h]
  induction p.list with
  |nil=>rfl
  |cons a l ih=>simp only[List.all_cons]at ih⊢;rw[ih];cases ot p.ae a<;>cases ri a<;>cases l.all (ot p.ae)<;>cases l.all ri<;>rfl
 ·rw[h]
  induction p.list with
  |nil=>rfl
  |cons a l ih=>simp only[List.all_cons]at ih⊢;rw[ih];cases ot p.ae a<;>cases l.all (ot p.ae)<;>rfl
theorem ayi(p:aW)(h1:p.heard.length<=1048576)(h2:p.list.length<=1048576)(h3:aR p.list):ju_ (eD p)=some [bb (yH p)]:=by
 unfold eD
 rw[au3,Jt]
 cases c1:gj p.kind 1 3 with
 |false=>simp(disch:=omega) only[↓pQ,pS,↓reduceIte,aj,ak,ap,aq,au,av,aw,ax,ay,yv,E1,vA,c1,dh];rfl
 |true=>
 cases c2:gj p.gp 1 6 with
 |false=>simp(disch:=omega) only[↓pQ,pS,↓reduceIte,aj,ak,ap,aq,au,av,aw,ax,ay,yv,E1,vA,c1,c2,dh];rfl
 |true=>
 cases c3:gj p.to 1 6 with
 |false=>simp(disch:=omega) only[↓pQ,pS,↓reduceIte,aj,ak,ap,aq,au,av,aw,ax,ay,yv,E1,vA,c1,c2,c3,dh];rfl
 |true=>
 by_cases c4:p.gp=p.to
 ·simp(disch:=omega) only[↓pQ,pS,↓reduceIte,aj,ak,ap,aq,au,av,aw,ax,ay,yv,E1,vA,c1,c2,c3,c4]
  simp
 have rZ:(p.gp==p.to)=false:=by simpa using c4
 rw[rZ]
 cases c5:gj p.ae 0 2 with
 |false=>simp(disch:=omega) only[↓pQ,pS,↓reduceIte,aj,ak,ap,aq,au,av,aw,ax,ay,yv,E1,vA,c1,c2,c3,c4,c5,dh];rfl
 |true=>
 have k13:=bg.1 c1
 have hU:=ayf p.heard h1
 have hS:=Ix p.list h2 h3
 have hM:=ayg p.list h2 h3
 unfold xE
 by_cases c6:p.kind=1
 ·rw[if_pos c6]
  cases c7:rY p.heard with
  |false=>rw[c7]at hU;simp(disch:=omega) only[↓pQ,pS,↓reduceIte,aj,ak,ap,aq,au,av,aw,ax,ay,yv,E1,vA,c1,c2,c3,c4,c5,c6,hU,dh];rfl
  |true=>
   rw[c7]at hU
   simp(disch:=omega) only[↓pQ,pS,↓reduceIte,aj,ak,ap,aq,au,av,aw,ax,ay,yv,E1,vA,c1,c2,c3,c4,c5,c6,hU]
   by_cases c8:p.list=[]
   ·rw[c8];simp[df,ei,kC,gj]
   ·have:¬p.list.length=0:=λh=>c8 (List.eq_nil_of_length_eq_zero h)
    have h0:¬((p.list.length:Int)=0):=by omega
    simp[c8]
 ·rw[if_neg c6]
  simp(disch:=omega) only[↓pQ,pS,↓reduceIte,aj,ak,ap,aq,au,av,aw,ax,ay,yv,E1,vA,c1,c2,c3,c4,c5,c6]
  refine(uf p.list.length (λi=>[bb false,ii i]) (λi=>ot p.ae (gt p.list i)) (fE:=some [bb false]) (gW:=some [bb (decide (p.heard.length=0)&&df p.list&&(decide (p.kind=3)||p.list.all ri))]) rfl (dG h2) ?_ ?_).trans ?_
  ·intro i hi s1
   simp(disch:=omega) only[↓pQ,pS,↓reduceIte,aj,ak,ap,aq,au,av,aw,ax,ay,yv,hi]
   unfold ot
   grind
  ·intro s1
   by_cases c7:(p.heard.length:Int)=0
   ·have c7':p.heard.length=0:=by omega
    cases c8:df p.list with
    |false=>rw[c8]at hS;simp(disch:=omega) only[↓pQ,pS,↓reduceIte,aj,ak,ap,aq,au,av,aw,ax,ay,yv,c7,hS,dh];simp
    |true=>
     rw[c8]at hS
     by_cases c9:p.kind=3
     ·simp(disch:=omega) only[↓pQ,pS,↓reduceIte,aj,ak,ap,aq,au,av,aw,ax,ay,yv,c7,hS,c9];simp[c7']
     ·simp(disch:=omega) only[↓pQ,pS,↓reduceIte,aj,ak,ap,aq,au,av,aw,ax,ay,yv,c7,hS,c9,hM];simp[c7',c9]
   ·have c7':¬p.heard.length=0:=by omega
    simp(disch:=omega) only[↓pQ,pS,↓reduceIte,aj,ak,ap,aq,au,av,aw,ax,ay,yv,c7];simp[c7']
  ·rw[Q_,jL]
   refine congrArg (λb=>some [bb b]) ?_
   rw[ayh (by omega)]
   cases hA:p.list.all (ot p.ae)with
   |false=>simp
   |true=>
    by_cases hh:p.heard.length=0
    ·have:p.heard=[]:=List.eq_nil_of_length_eq_zero hh
     rw[this]
     simp[show rY []=true from rfl]
    ·simp[hh]
theorem ayj(p:aW)(h1:p.heard.length<=1048576)(h2:p.list.length<=1048576)(h3:aR p.list):ji_ (eD p)=some [bb (yH p)]:=by
 unfold eD
 rw[auJ,Jt]
 cases c1:gj p.kind 1 3 with
 |false=>simp(disch:=omega) only[↓pQ,pS,↓reduceIte,aj,ak,ap,aq,au,av,aw,ax,ay,qc,rC,Ke,wg,c1,dh];rfl
 |true=>
 cases c2:gj p.gp 1 6 with
 |false=>simp(disch:=omega) only[↓pQ,pS,↓reduceIte,aj,ak,ap,aq,au,av,aw,ax,ay,qc,rC,Ke,wg,c1,c2,dh];rfl
 |true=>
 cases c3:gj p.to 1 6 with
 |false=>simp(disch:=omega) only[↓pQ,pS,↓reduceIte,aj,ak,ap,aq,au,av,aw,ax,ay,qc,rC,Ke,wg,c1,c2,c3,dh];rfl
 |true=>
 by_cases c4:p.gp=p.to
 ·simp(disch:=omega) only[↓pQ,pS,↓reduceIte,aj,ak,ap,aq,au,av,aw,ax,ay,qc,rC,Ke,wg,c1,c2,c3,c4]
  simp
 have rZ:(p.gp==p.to)=false:=by simpa using c4
 rw[rZ]
 cases c5:gj p.ae 0 2 with
 |false=>simp(disch:=omega) only[↓pQ,pS,↓reduceIte,aj,ak,ap,aq,au,av,aw,ax,ay,qc,rC,Ke,wg,c1,c2,c3,c4,c5,dh];rfl
 |true=>
 have hS:=kk_ p.list h2 h3
 simp(disch:=omega) only[↓pQ,pS,↓reduceIte,aj,ak,ap,aq,au,av,aw,ax,ay,qc,rC,Ke,wg,c1,c2,c3,c4,c5]
 refine(uf p.heard.length (λi=>[bb false,ii i]) (λi=>gj (gt p.heard i) 1 6&&(!decide ((i:Int)>0)|| !decide (gt p.heard (i-1:Int)>=gt p.heard i))) (fE:=some [bb false]) (gW:=some [bb (xE p)]) rfl (dG h1) ?_ ?_).trans (jL _ _ _ |>.trans (by unfold rY ei;grind))
 ·intro i hi s1
  simp(disch:=omega) only[↓pQ,pS,↓reduceIte,aj,ak,ap,aq,au,av,aw,ax,ay,qc,rC,hi,wg]
  grind
 ·intro s1
  have hL:iter (qc Hz tw HA (ii p.kind) (ii p.ae) (.l (p.list.map ai))) rounds [bb false,ii 0]=some [bb (p.list.all (λr=>ot p.ae r&&(!(p.kind==2)||ri r)))]:=by
   refine(uf p.list.length (λi=>[bb false,ii i]) (λi=>ot p.ae (gt p.list i)&&(!(p.kind==2)||ri (gt p.list i))) (fE:=some [bb false]) (gW:=some [bb true]) rfl (dG h2) ?_ ?_).trans ?_
   ·intro i hi q
    have hn:=h3.gt (n:=i) (by omega) hi
    have g1:=ae7 (gt p.list i).ae (gt p.list i).kind (gt p.list i).owner (gt p.list i).key (gt p.list i).seq (.l ((gt p.list i).aV.map fe)) (ii (gt p.list i).cost) (bb (gt p.list i).eY)
    have g2:=P1 (gt p.list i).ae (gt p.list i).kind (gt p.list i).owner (gt p.list i).key (gt p.list i).seq [] (if(gt p.list i).kind=3 then 1 else 0) false (gt p.list i).ae (gt p.list i).kind (gt p.list i).owner (gt p.list i).key (gt p.list i).seq (gt p.list i).aV (gt p.list i).cost (gt p.list i).eY (by simp)
    rw[show(T.l (List.map fe []))=.l [] from rfl]at g2
    have g3:wi ⟨(gt p.list i).ae,(gt p.list i).kind,(gt p.list i).owner,(gt p.list i).key,(gt p.list i).seq,[],if(gt p.list i).kind=3 then 1 else 0,false⟩ ⟨(gt p.list i).ae,(gt p.list i).kind,(gt p.list i).owner,(gt p.list i).key,(gt p.list i).seq,(gt p.list i).aV,(gt p.list i).cost,(gt p.list i).eY⟩=ri (gt p.list i):=rfl
    rw[g3]at g2
    unfold ot
    by_cases d1:(gt p.list i).ae=p.ae
    ·rw[d1]at g1 g2
     by_cases d3:p.kind=2
     ·cases d4:ri (gt p.list i)with
      |false=>rw[d4]at g2;simp(disch:=omega) only[↓pQ,pS,↓reduceIte,aj,ak,ap,aq,au,av,aw,ax,ay,qc,rC,hi,d1,d3,AX,g1,g2];simp[d1,d3]
      |true=>rw[d4]at g2;simp(disch:=omega) only[↓pQ,pS,↓reduceIte,aj,ak,ap,aq,au,av,aw,ax,ay,qc,rC,hi,d1,d3,AX,g1,g2];simp[d1,d3]
     ·simp(disch:=omega) only[↓pQ,pS,↓reduceIte,aj,ak,ap,aq,au,av,aw,ax,ay,qc,rC,hi,d1,d3];simp[d1,d3]
    ·by_cases d2:(gt p.list i).ae=9
     ·rw[d2]at g1 g2
      by_cases d3:p.kind=2
      ·cases d4:ri (gt p.list i)with
       |false=>rw[d4]at g2;simp(disch:=omega) only[↓pQ,pS,↓reduceIte,aj,ak,ap,aq,au,av,aw,ax,ay,qc,rC,hi,d1,d2,d3,AX,g1,g2];simp[d2,d3]
       |true=>rw[d4]at g2;simp(disch:=omega) only[↓pQ,pS,↓reduceIte,aj,ak,ap,aq,au,av,aw,ax,ay,qc,rC,hi,d1,d2,d3,AX,g1,g2];simp[d2,d3]
      ·simp(disch:=omega) only[↓pQ,pS,↓reduceIte,aj,ak,ap,aq,au,av,aw,ax,ay,qc,rC,hi,d1,d2,d3];simp[d2,d3]
     ·simp(disch:=omega) only[↓pQ,pS,↓reduceIte,aj,ak,ap,aq,au,av,aw,ax,ay,qc,rC,hi,d1,d2];simp[d1,d2]
   ·intro q
    simp(disch:=omega) only[↓pQ,pS,↓reduceIte,aj,ak,ap,aq,au,av,aw,ax,ay,qc,rC,]
   ·rw[Q_ (p:=λr=>ot p.ae r&&(!(p.kind==2)||ri r)),jL]
    refine congrArg (λb=>some [bb b]) ?_
    cases p.list.all _<;>rfl
  have c6:∀b:Bool,(if b=true then some [bb false]else some [bb (p.list.all (λr=>ot p.ae r&&(!(p.kind==2)||ri r)))])=some [bb (!b&&p.list.all (λr=>ot p.ae r&&(!(p.kind==2)||ri r)))]:=λb=>by cases b<;>simp
  generalize hK:iter (qc Hz tw HA (ii p.kind) (ii p.ae) (.l (p.list.map ai))) rounds [bb false,ii 0]=K at hL⊢
  unfold xE
  by_cases k1:p.kind=1
  ·by_cases k2:(p.list.length:Int)>0
   ·simp(disch:=omega) only[↓pQ,pS,↓reduceIte,aj,ak,ap,aq,au,av,aw,ax,ay,qc,rC,k1,k2]
    have:¬p.list.length=0:=by omega
    simp[this]
   ·cases k3:df p.list with
    |false=>rw[k3]at hS;simp(disch:=omega) only[↓pQ,pS,↓reduceIte,aj,ak,ap,aq,au,av,aw,ax,ay,qc,rC,k1,k2,hS];simp
    |true=>
     rw[k3]at hS
     simp(disch:=omega) only[↓pQ,pS,↓reduceIte,aj,ak,ap,aq,au,av,aw,ax,ay,qc,rC,k1,k2,hS]
     have:p.list.length=0:=by omega
     rw[<-k1]
     rw[hK,hL]
     simp[this]
  ·by_cases k2:(p.heard.length:Int)>0
   ·simp(disch:=omega) only[↓pQ,pS,↓reduceIte,aj,ak,ap,aq,au,av,aw,ax,ay,qc,rC,k1,k2]
    have:¬p.heard.length=0:=by omega
    simp[this]
   ·cases k3:df p.list with
    |false=>rw[k3]at hS;simp(disch:=omega) only[↓pQ,pS,↓reduceIte,aj,ak,ap,aq,au,av,aw,ax,ay,qc,rC,k1,k2,hS];simp
    |true=>
     rw[k3]at hS
     simp(disch:=omega) only[↓pQ,pS,↓reduceIte,aj,ak,ap,aq,au,av,aw,ax,ay,qc,rC,k1,k2,hS]
     have:p.heard.length=0:=by omega
     rw[hK,hL]
     simp[this]
def nB(a b:List ah):List ah:=b.foldl (λc r=>if yG c r=true then cM c r else c) (eM same [] a)
theorem Ju:∀{own c:List ah},(∀r∈own,∀x∈c,dO x r=true->x.seq<r.seq)->own.Pairwise (λa b=>dO a b=false)->
  own.foldl (λc r=>if yG c r=true then cM c r else c) c=eM same c own
 | [],c,_,_=>rfl
 |r::own,c,h,hp=>by
  have h1:yG c r=true:=by
   unfold yG
   by_cases h0:bn c r<0
   ·simp[h0]
   ·have h2:=Jl (s:=c) (r:=r) (by omega)
    have:=h r (.head _) _ h2.1 h2.2
    simp[this]
  rw[List.foldl_cons,if_pos h1]
  rw[List.pairwise_cons]at hp
  exact Ju (own:=own) (c:=cM c r) (λr' iM x hx hk=>by
   rcases AY hx with rfl|hx
   ·rw[hp.1 r' iM]at hk;cases hk
   ·exact h r' (.tail _ iM) x hx hk) hp.2
theorem Q'{b c:List ah}{k:Nat}(h:Fit k c)(hn:aR b):Fit (k+b.length) (b.foldl (λc r=>if yG c r=true then cM c r else c) c):=by
 induction b generalizing c k with
 |nil=>exact h
 |cons r b ih=>
  rw[List.foldl_cons]
  have h1:Fit (k+1) (if yG c r=true then cM c r else c):=by
   split
   ·exact h.put (hn r (.head _))
   ·exact h.mono (by omega)
  exact(ih h1 λx hx=>hn x (.tail _ hx)).mono (by simp;omega)
theorem Ra(a b:List ah)(ha:a.length<=1000)(hb:b.length<=1000)(na:aR a)(nb:aR b):DC [.l (a.map ai),.l (b.map ai)]=some [.l ((nB a b).map ai)]:=by
 rw[au5];simp(disch:=omega) only[↓pQ,pS,↓reduceIte,aj,ak,ap,aq,au,av,aw,ax,ay,Kf,Kg,PP]
 have jP:∀{k:Nat} {c:List ah} (r:ah),Fit k c->k<=3000->r.aV.length<=1048576->tB [.l (c.map ai),ii r.ae,ii r.kind,ii r.owner,ii r.key,ii r.seq,.l (r.aV.map fe),ii r.cost,bb r.eY]=some [.l ((cM c r).map ai)]:=
  λr hc hk hr=>DQ _ r.ae r.kind r.owner r.key r.seq r.aV r.cost r.eY (by have:=hc.len;omega) hc.aV hc.so hr
 refine(iP a (λi c=>[.l (c.map ai),ii i]) (λc r=>cM c (same r)) (λc=>some [T.l ((b.foldl (λc r=>if yG c r=true then cM c r else c) c).map ai)]) [] (λi c=>Fit i c) rfl (dG (by omega)) Fit.nil ?_ ?_).trans ?_
 ·intro i c hi hc
  have hr:=na.gt (n:=i) (by omega) hi
  refine⟨hc.put hr,λk=>?_⟩
  have hp:=jP (gt a i) hc (by omega) hr
  simp(disch:=omega) only[↓pQ,pS,↓reduceIte,aj,ak,ap,aq,au,av,aw,ax,ay,Kf,Kg,hi,hp]
  rfl
 ·intro c q hc
  simp(disch:=omega) only[↓pQ,pS,↓reduceIte,aj,ak,ap,aq,au,av,aw,ax,ay,Kf,Kg,]
  refine iP b (λi c=>[.l (c.map ai),ii i]) (λc r=>if yG c r=true then cM c r else c) (λc=>some [T.l (c.map ai)]) c (λi c=>Fit (a.length+i) c) rfl (dG (by omega)) hc ?_ ?_
  ·intro i d hi hd
   have hr:=nb.gt (n:=i) (by omega) hi
   have hl:=hd.len
   refine⟨by
    split
    ·exact hd.put hr
    ·exact hd.mono (by omega),λk=>?_⟩
   have hp:=jP (gt b i) hd (by omega) hr
   have hk:=afc d (gt b i) (.l ((gt b i).aV.map fe)) (ii (gt b i).cost) (bb (gt b i).eY) (by omega)
   have bf:=Jf d (gt b i)
   unfold yG
   by_cases c1:bn d (gt b i)<0
   ·simp(disch:=omega) only[↓pQ,pS,↓reduceIte,aj,ak,ap,aq,au,av,aw,ax,ay,Kf,Kg,hi,hk,c1,hp]
    try simp
   ·have c2:0<=bn d (gt b i):=by omega
    by_cases c3:(gt d (bn d (gt b i))).seq<(gt b i).seq
    ·simp(disch:=omega) only[↓pQ,pS,↓reduceIte,aj,ak,ap,aq,au,av,aw,ax,ay,Kf,Kg,hi,hk,c1,c2,c3,bf,hp]
     try simp
    ·simp(disch:=omega) only[↓pQ,pS,↓reduceIte,aj,ak,ap,aq,au,av,aw,ax,ay,Kf,Kg,hi,hk,c1,c2,c3,bf,hp]
     try simp
  ·intro d q2 hd
   simp(disch:=omega) only[↓pQ,pS,↓reduceIte,aj,ak,ap,aq,au,av,aw,ax,ay,Kf,Kg,]
 ·rfl
def yI(id:Int)(e:dk)(what:List ah):List aW:=if e.both=true then(if what.length=0 then []else [⟨3,id,e.node,e.ae,[],what⟩])else []
def A1(id:Int)(es:List dk)(but:Int)(all gu:List ah):List aW:=
 (List.range es.length).foldl (λc (i:Nat)=>c++yI id (gt es (i:Int)) (scope (if(i:Int)=but then gu else all) (gt es (i:Int)).ae)) []
theorem Jv(id:Int)(e:dk)(what:List ah):(yI id e what).length<=1:=by unfold yI;split<;>(try split)<;>simp
theorem aff(k id a b:Int)(w:List ah):Prim.ev (.lit 6 []) [ii k,ii id,ii a,ii b,.l [],.l (w.map ai)]=some (.l [eD ⟨k,id,a,b,[],w⟩]):=by simp[Prim.ev,r9,rl,eD]
theorem vI{c:List aW}(x:aW)(h:c.length<=4294967200):Prim.ev (.app false 6) [.l (c.map eD),.l [eD x]]=some (.l ((c++[x]).map eD)):=kM_ (l:=c) (m:=[x]) (by simp;omega)
def rk(es:List dk)(k:Int)(b:Bool):List dk:=es.set k.toNat ⟨(gt es k).node,(gt es k).ae,3,b⟩
theorem Rb(es:List dk)(k:Int)(b:Bool):(rk es k b).length=es.length:=by unfold rk;simp
theorem afg{es:List dk}{k:Int}{b:Bool}(h:0<=k)(h':k<es.length):∃SC:List dk,SC.length=es.length∧Prim.ev (.put true 4 2 1) [.l (es.map b8),ii k,ii 3]=some (.l (SC.map b8))∧
  Prim.ev (.put true 4 3 1) [.l (SC.map b8),ii k,bb b]=some (.l ((rk es k b).map b8)):=by
 refine⟨es.set k.toNat {gt es k with left:=3},by simp,ax' h h',?_⟩
 rw[aya h (by simpa using h')]
 congr 3
 have hk:k.toNat<es.length:=by omega
 have e1:gt (es.set k.toNat {gt es k with left:=3}) k={gt es k with left:=3}:=by
  obtain⟨m,rfl⟩:∃m:Nat,k=m:=⟨k.toNat,by omega⟩
  rw[eC (by simpa using hk)]
  simp
 rw[e1,List.set_set]
 rfl
def xF(x:Self)(e:dk)(list:List ah):List aW:=
 (if(ov (scope x.store e.ae) list).length=0 then []else [⟨3,x.id,e.node,e.ae,[],ov (scope x.store e.ae) list⟩])++
  (if(ov list (scope x.store e.ae)).length=0 then []else [⟨2,x.id,e.node,e.ae,[],Jj x.store e.ae⟩])
def Jw(n:Node)(p:aW):Node×List aW:=
 let es:=rk n.cU (fk n.cU p.gp p.ae) (p.heard.contains n.self.id)
 let y:=jN {n.self with heard:=kj es}
 (⟨y.1,es⟩,A1 y.1.id es (-1) (nB [] y.2) (nB [] y.2))
def Jx(n:Node)(p:aW):Node×List aW:=
 let y:=jN {n.self with store:=(vG n.self p.list).1}
 (⟨y.1,n.cU⟩,A1 y.1.id n.cU (fk n.cU p.gp p.ae) (nB (vG n.self p.list).2 y.2) (nB [] y.2))
def vJ(n:Node)(p:aW):Node×List aW:=
 if l_ n=true∧yH p=true∧p.to=n.self.id∧¬fk n.cU p.gp p.ae<0 then
  if p.kind=1 then Jw n p
  else if(gt n.cU (fk n.cU p.gp p.ae)).both=true then
   if p.kind=2 then(n,xF n.self (gt n.cU (fk n.cU p.gp p.ae)) p.list)else Jx n p
  else(n,[])
 else(n,[])
theorem Jy{x:Self}(hn:aR x.store)(hh:x.heard.length<=1048576):Fit 175 (jN x).2:=by
 unfold jN
 by_cases hk:kf x=true
 ·rw[if_pos hk]
  obtain⟨hN,gG,ki,jy,ua,cf⟩:=qi hk
  obtain⟨n1,hl,ht,hA,hT⟩:=yE hN
  unfold wm
  split
  ·exact Q2 (x:=x) (Ji (x:=x) (rF x.store x.id (fJ x)) ht hh) (Kv cf hn).len
  ·exact Fit.nil.mono (by omega)
 ·rw[if_neg hk]
  exact Fit.nil.mono (by omega)
theorem Rc:∀(l:List ah) (p:List ah×List ah),aR l->aR p.1->aR p.2->aR (l.foldl li p).1∧aR (l.foldl li p).2∧(l.foldl li p).2.length<=p.2.length+l.length
 | [],p,_,h1,h2=>⟨h1,h2,by simp⟩
 |r::l,p,h,h1,h2=>by
  rw[List.foldl_cons]
  have hr:=h r (.head _)
  have g1:aR (li p r).1:=by
   unfold li;split
   ·exact P8 h1 hr
   ·exact h1
  have g2:aR (li p r).2:=by
   unfold li;split
   ·intro x hx
    rcases List.mem_append.1 hx with hx|hx
    ·exact h2 x hx
    ·rw[List.mem_singleton.1 hx];exact hr
   ·exact h2
  have g3:(li p r).2.length<=p.2.length+1:=by unfold li;split<;>simp
  obtain⟨f1,f2,f3⟩:=Rc l (li p r) (λx hx=>h x (.tail _ hx)) g1 g2
  exact⟨f1,f2,by simp only[List.length_cons];omega⟩
theorem afh{k:Nat}{c:List ah}(r:ah)(hc:Fit k c)(hk:k<=3000)(hr:r.aV.length<=1048576):ug [.l (c.map ai),ii r.ae,ii r.kind,ii r.owner,ii r.key,ii r.seq,.l (r.aV.map fe),ii r.cost,bb r.eY]=some [.l ((cM c r).map ai)]:=
 Sl _ r.ae r.kind r.owner r.key r.seq r.aV r.cost r.eY (by have:=hc.len;omega) hc.aV hr
def Rd(id:Int)(es:List dk)(cA:List ah)(gp:Int)(own:List ah):List aW:=
 (List.range es.length).foldl (λc (i:Nat)=>c++yI id (gt es (i:Int)) (scope (eM same (if(i:Int)=gp then []else eM same [] cA) own) (gt es (i:Int)).ae)) []
theorem afi(id node ae:Int)(own:List ah)(c:List aW)(i:Nat)(K:af){d:List ah}(hd:Fit 1000 d)(ho:own.length<=1000)(no:aR own)(hc:c.length<=1000)(hi:i<=1000):
  iter (z9 C4 ug (ii id) (.l (own.map ai)) (.l (c.map eD)) (ii i) (ii node) (ii ae) K) rounds [.l (d.map ai),ii 0]=
   K [.l ((c++(if(scope (eM same d own) ae).length=0 then []else [(⟨3,id,node,ae,[],scope (eM same d own) ae⟩:aW)])).map eD),ii (i+1)]:=by
 refine(iP own (λj e=>[.l (e.map ai),ii j]) (λe r=>cM e (same r)) (λe=>K [.l ((c++(if(scope e ae).length=0 then []else [(⟨3,id,node,ae,[],scope e ae⟩:aW)])).map eD),ii (i+1)]) d (λj e=>Fit (1000+j) e) rfl (dG (by omega)) hd ?_ ?_).trans rfl
 ·intro j e hj he
  have hr:=no.gt (n:=j) (by omega) hj
  refine⟨he.put hr,λk=>?_⟩
  have hp:=afh (gt own j) he (by omega) hr
  simp(disch:=omega) only[↓pQ,pS,↓reduceIte,aj,ak,ap,aq,au,av,aw,ax,ay,AV,z9,DJ,hj,hp]
  rfl
 ·intro e q he
  have hs:=P5 e ae (by have:=he.len;omega) he.aV
  by_cases c1:((scope e ae).length:Int)>0
  ·have c2:¬(scope e ae).length=0:=by omega
   have p1:Prim.ev (.lit 6 [true,true,true,true,false,false]) [ii 3,ii id,ii node,ii ae,.l [],.l ((scope e ae).map ai)]=some (.l [eD ⟨3,id,node,ae,[],scope e ae⟩]):=MW 3 id node ae [] (scope e ae)
   have p2:=vI (c:=c) ⟨3,id,node,ae,[],scope e ae⟩ (by omega)
   simp(disch:=omega) only[↓pQ,pS,↓reduceIte,aj,ak,ap,aq,au,av,aw,ax,ay,AV,z9,DJ,hs,c1,c2,p1,p2]
  ·have c2:(scope e ae).length=0:=by omega
   simp(disch:=omega) only[↓pQ,pS,↓reduceIte,aj,ak,ap,aq,au,av,aw,ax,ay,AV,z9,DJ,hs,c1,c2]
   simp
theorem afj(x:Self)(es:List dk)(cA:List ah)(gp:Int)(own:List ah)(he:es.length<=1000)(hl:cA.length<=1000)(ho:own.length<=1000)(nl:aR cA)(no:aR own)(t1 t2 t3 t4 t5 t6:T):
  kb_ [ii x.id,t1,t2,t3,t4,t5,t6,.l (es.map b8),.l (cA.map ai),ii gp,.l (own.map ai)]=some [.l ((Rd x.id es cA gp own).map eD)]:=by
 rw[auL];simp(disch:=omega) only[↓pQ,pS,↓reduceIte,aj,ak,ap,aq,au,av,aw,ax,ay,AV,z9,DJ,PI]
 refine sn es.length (λi c=>[.l (c.map eD),ii i]) (λc i=>c++yI x.id (gt es (i:Int)) (scope (eM same (if(i:Int)=gp then []else eM same [] cA) own) (gt es (i:Int)).ae)) (λc=>some [T.l (c.map eD)]) [] (λi c=>c.length<=i) rfl (dG (by omega)) (by simp) ?_ ?_
 ·intro i c hi hc
  refine⟨by have:=Jv x.id (gt es (i:Int)) (scope (eM same (if(i:Int)=gp then []else eM same [] cA) own) (gt es (i:Int)).ae);rw[List.length_append];omega,λq=>?_⟩
  unfold yI
  cases hb:(gt es (i:Int)).both with
  |false=>
   simp(disch:=omega) only[↓pQ,pS,↓reduceIte,aj,ak,ap,aq,au,av,aw,ax,ay,AV,z9,DJ,hi,hb,dh]
   simp
  |true=>
   rw[if_pos rfl]
   by_cases c1:(i:Int)=gp
   ·subst c1
    rw[if_pos rfl]
    have h:=afi x.id (gt es (i:Int)).node (gt es (i:Int)).ae own c i q (d:=[]) (Fit.nil.mono (by omega)) ho no (by omega) (by omega)
    have e0:T.l (List.map ai [])=.l []:=rfl
    rw[e0]at h
    simp(disch:=omega) only[↓pQ,pS,↓reduceIte,aj,ak,ap,aq,au,av,aw,ax,ay,AV,z9,DJ,hi,hb]
    exact h
   ·rw[if_neg c1]
    have h2:∀K:af,(∀d:List ah,K [.l (d.map ai)]=iter (z9 C4 ug (ii x.id) (.l (own.map ai)) (.l (c.map eD)) (ii i) (ii (gt es (i:Int)).node) (ii (gt es (i:Int)).ae) q) rounds [.l (d.map ai),ii 0])->
      iter (AV ug (.l (cA.map ai)) K) rounds [.l [],ii 0]=K [.l ((eM same [] cA).map ai)]:=by
     intro K hK
     refine(iP cA (λj e=>[.l (e.map ai),ii j]) (λe r=>cM e (same r)) (λe=>K [.l (e.map ai)]) [] (λj e=>Fit j e) rfl (dG (by omega)) Fit.nil ?_ ?_).trans rfl
     ·intro j e hj he
      have hr:=nl.gt (n:=j) (by omega) hj
      refine⟨he.put hr,λk=>?_⟩
      have hp:=afh (gt cA j) he (by omega) hr
      simp(disch:=omega) only[↓pQ,pS,↓reduceIte,aj,ak,ap,aq,au,av,aw,ax,ay,AV,z9,DJ,hj,hp]
      rfl
     ·intro e q2 he
      simp(disch:=omega) only[↓pQ,pS,↓reduceIte,aj,ak,ap,aq,au,av,aw,ax,ay,AV,z9,DJ,]
    have f1:=Fit.mb (f:=same) (l:=cA) (λr hr=>nl r hr) Fit.nil
    have h:=afi x.id (gt es (i:Int)).node (gt es (i:Int)).ae own c i q (d:=eM same [] cA) (f1.mono (by omega)) ho no (by omega) (by omega)
    simp(disch:=omega) only[↓pQ,pS,↓reduceIte,aj,ak,ap,aq,au,av,aw,ax,ay,AV,z9,DJ,hi,hb,c1]
    refine Eq.trans ?_ h
    refine(h2 _ λd=>?_).trans ?_
    ·rfl
    ·rfl
 ·intro c q hc
  simp(disch:=omega) only[↓pQ,pS,↓reduceIte,aj,ak,ap,aq,au,av,aw,ax,ay,AV,z9,DJ,]
def Has(s:List ah)(r:ah)(n:Int):Prop:=∃x∈s,dO x r=true∧n<=x.seq
theorem ayk{s:List ah}(hs:gZ s){r:ah}(h:pf s r=true):∀x∈s,dO x r=true->x.seq<r.seq:=by
 intro x hx hk
 unfold pf at h
 rw[if_pos (Q4 hx hk),ae2 hs hx hk]at h
 simp only[bD,decide_eq_true_eq]at h
 exact h.2
theorem Has.ins{s:List ah}(hs:gZ s){r:ah}{n:Int}(h:Has s r n)(y:ah):Has (nX s y) r n:=by
 obtain⟨x,hx,hk,hn⟩:=h
 unfold nX
 split
 ·rename_i hi
  cases hc:dO x y with
  |true=>
   have:=ayk hs hi x hx hc
   refine⟨y,fi.2 (.inl rfl),?_,by omega⟩
   rw[sameKey_iff]at*
   omega
  |false=>exact⟨x,fi.2 (.inr ⟨hx,hc⟩),hk,hn⟩
 ·exact⟨x,hx,hk,hn⟩
theorem Re:∀(l:List ah) (p:List ah×List ah),df p.1=true->(∀r∈p.2,Has p.1 r r.seq∧eW r=true)->
  df (l.foldl li p).1=true∧(∀r n,Has p.1 r n->Has (l.foldl li p).1 r n)∧∀r∈(l.foldl li p).2,Has (l.foldl li p).1 r r.seq∧eW r=true
 | [],p,h,h2=>⟨h,λ_ _ h=>h,h2⟩
 |y::l,p,h,h2=>by
  rw[List.foldl_cons]
  have hs:=tH h
  have g1:df (li p y).1=true:=by rw[Eg];exact Ef h y
  have g2:∀r n,Has p.1 r n->Has (li p y).1 r n:=λr n hh=>by rw[Eg];exact hh.ins hs y
  have g3:∀r∈(li p y).2,Has (li p y).1 r r.seq∧eW r=true:=by
   intro r hr
   by_cases hi:pf p.1 y=true
   ·have e1:(li p y).2=p.2++[y]:=by unfold li;rw[if_pos hi]
    have e2:(li p y).1=cM p.1 y:=by unfold li;rw[if_pos hi]
    rw[e1]at hr
    rcases List.mem_append.1 hr with hr|hr
    ·exact⟨g2 _ _ (h2 r hr).1,(h2 r hr).2⟩
    ·rw[List.mem_singleton.1 hr,e2]
     refine⟨⟨y,fi.2 (.inl rfl),E9 y,Int.le_refl _⟩,?_⟩
     unfold pf at hi
     simp only[bD]at hi
     exact hi.1
   ·have e1:(li p y).2=p.2:=by unfold li;rw[if_neg hi]
    rw[e1]at hr
    exact⟨g2 _ _ (h2 r hr).1,(h2 r hr).2⟩
  obtain⟨f1,f2,f3⟩:=Re l (li p y) g1 g3
  exact⟨f1,λr n hh=>f2 r n (g2 r n hh),f3⟩
theorem El{s:List ah}{r:ah}(h:r∈s):Has s r r.seq:=⟨r,h,E9 r,Int.le_refl _⟩
theorem ayl{s:List ah}{a b:ah}(ln:dO a b=true):bn s a=bn s b:=by
 unfold bn
 congr 1
 funext y
 rw[Bool.eq_iff_iff]
 exact⟨λhh=>ur hh ln,λhh=>ur hh (D9 ln)⟩
theorem afk{s:List ah}{a b:ah}(ln:dO a b=true):nW s a=nW s b:=by unfold nW;rw[ayl ln]
theorem Rf{s:List ah}(hs:gZ s){r x:ah}(hx:x∈s)(hk:dO x r=true):nW s r=x.seq:=by
 unfold nW
 have:=Q4 hx hk
 rw[if_neg (by omega),ae2 hs hx hk]
structure afl (x:Self) (y:Self×List ah):Prop where
 sorted:gZ y.2
 Ky:∀r∈y.2,nW x.store r<r.seq
 rok:∀r∈y.2,eW r=true
 store:df y.1.store=true
 mem:∀r∈y.2,r∈y.1.store
 has:∀r∈x.store,Has y.1.store r r.seq
 same:y.1={x with store:=y.1.store}
theorem Rg{x:Self}(h:kf x=true):afl x (jN x):=by
 obtain⟨hN,gG,ki,jy,ua,cf⟩:=qi h
 have sC:=tH cf
 unfold jN
 rw[if_pos h]
 unfold wm
 split
 ·rename_i hc
  have hF:=aeW h (rF x.store x.id (fJ x)) hc.1
  have hX:∀r∈rh x (nk x (rF x.store x.id (fJ x))),nW x.store r<r.seq:=by
   intro r hr
   have hs:∀q:ah,nW x.store q<tO x q:=λq=>by unfold tO;split<;>omega
   rcases(Q6 (Q7 _ _) sC).1 hr with⟨w,hw,_,e⟩|⟨o,_,hg,e⟩
   ·rw[afk (e▸ko_ x w:dO r w=true),e]
    exact hs w
   ·rw[afk (e▸Eh x o:dO r o=true),e]
    exact hs o
  generalize hG:rh x (nk x (rF x.store x.id (fJ x)))=N at*
  have hNs:gZ N:=hG▸jb_ x _
  refine⟨hNs,hX,hF,?_,λr hr=>(xC hNs).2 (.inl hr),λr hr=>?_,rfl⟩
  ·refine Ee (Jq sC) (λr hr=>?_) hc.2
   rcases(xC hNs).1 hr with h1|h1
   ·exact hF r h1
   ·exact E_ (by unfold df at cf;simp only[bD]at cf;exact cf.2) r h1.1
  ·by_cases hk:∃o∈N,dO r o=true
   ·obtain⟨o,ho,hk⟩:=hk
    have:=hX o ho
    rw[Rf sC hr hk]at this
    exact⟨o,(xC hNs).2 (.inl ho),D9 hk,by omega⟩
   ·refine El ((xC hNs).2 (.inr ⟨hr,λo ho=>?_⟩))
    cases hc:dO r o with
    |false=>rfl
    |true=>exact absurd ⟨o,ho,hc⟩ hk
 ·exact⟨.nil,λr hr=>(by cases hr),λr hr=>(by cases hr),cf,λr hr=>(by cases hr),λr hr=>El hr,rfl⟩
theorem Rh{s:List ah}(h:gZ s):s.Pairwise λa b=>dO a b=false:=Jp (f:=same) h λr=>E9 r
theorem afn{id:Int}{es:List dk}{cA own:List ah}{k:Int}(h:∀r∈own,∀x∈cA,dO x r=true->x.seq<r.seq)(hp:gZ own):Rd id es cA k own=A1 id es k (nB cA own) (nB [] own):=by
 have e1:nB cA own=eM same (eM same [] cA) own:=Ju (λr hr x hx hk=>by
  rcases Ao hx with h1|⟨y,hy,e⟩
  ·cases h1
  ·exact h r hr x (by have e:x=y:=e;rw[e];exact hy) hk) (Rh hp)
 have e2:nB [] own=eM same [] own:=Ju (λr hr x hx=>by cases hx) (Rh hp)
 unfold Rd A1
 rw[e1,e2]
 congr 1
 funext c i
 by_cases hi:(i:Int)=k
 ·rw[if_pos hi,if_pos hi]
 ·rw[if_neg hi,if_neg hi]
theorem aym(x:Self)(es:List dk)(h1:x.net.aE.length<=1048576)(h2:x.net.aM.length<=1048576)(h3:x.heard.length<=1048576)(h4:x.store.length<=1048576)(h5:aR x.store)(h6:es.length<=1048576):
  XA [ii x.id,ii x.bh,ii x.net.n,.l (x.net.aE.map dB),.l (x.net.aM.map ed),.l (x.heard.map aB),.l (x.store.map ai),.l (es.map b8)]=some [ii x.id,ii x.bh,ii x.net.n,.l (x.net.aE.map dB),.l (x.net.aM.map ed),.l (x.heard.map aB),.l (x.store.map ai),.l (es.map b8)]:=by
 have hc:=ae4 x h1 h2 h3 h4 h5
 try simp only[iB]at hc
 rw[art];simp(disch:=omega) only[↓pQ,pS,↓reduceIte,aj,ak,ap,aq,au,av,aw,ax,ay,N6,hc]
theorem ayn(x:Self)(e:dk)(t1 t2 t3 t4 t5 t7 t8 t9:T)(h4:x.store.length<=1048576)(h5:aR x.store):C5 [ii x.id,t1,t2,t3,t4,t5,.l (x.store.map ai),t7,ii e.node,ii e.ae,t8,t9]=some (eD ⟨2,x.id,e.node,e.ae,[],Jj x.store e.ae⟩):=by
 have hh:=ax1 x.store e.ae h4 h5
 rw[as5];simp(disch:=omega) only[↓pQ,pS,↓reduceIte,aj,ak,ap,aq,au,av,aw,ax,ay,OR,hh]
 rfl
theorem ayo{es:List dk}{node ae:Int}(h:¬fk es node ae<0):(gt es (fk es node ae)).node=node∧(gt es (fk es node ae)).ae=ae:=by
 have:=ue (λe:dk=>e.node==node&&e.ae==ae) es (by unfold fk at h;omega)
 simp only[bD,beq_iff_eq]at this
 exact this
theorem ayp(x:Self)(e:dk)(list:List ah)(t1 t2 t3 t4 t5 t7 t8 t9 u0 u1 u2 u4:T)(h4:x.store.length<=1048576)(h5:aR x.store)(q2:list.length<=1000)(q3:aR list):
  uT_ [ii x.id,t1,t2,t3,t4,t5,.l (x.store.map ai),t7,ii e.node,ii e.ae,t8,t9,u0,u1,u2,ii e.ae,u4,.l (list.map ai)]=some [.l ((xF x e list).map eD)]:=by
 have hs:=P5 x.store e.ae h4 h5
 have se:(scope x.store e.ae).length<=1048576:=Nat.le_trans (adN _ _) h4
 have hsn:aR (scope x.store e.ae):=λr hr=>h5 r (List.mem_filter.1 hr).1
 have xR:=afe (scope x.store e.ae) list se hsn (by omega)
 have Jz:=afe list (scope x.store e.ae) (by omega) q3 se
 have hh:=ayn x e t1 t2 t3 t4 t5 t7 t8 t9 h4 h5
 unfold xF
 have p1:=aff 3 x.id e.node e.ae (ov (scope x.store e.ae) list)
 have p2:=aff 2 x.id e.node e.ae (Jj x.store e.ae)
 have a1:∀A:aW,Prim.ev (.app false 6) [.l [],.l [eD A]]=some (.l [eD A]):=λA=>vI (c:=[]) A (by simp)
 have a2:∀A B:aW,Prim.ev (.app false 6) [.l [eD A],.l [eD B]]=some (.l [eD A,eD B]):=λA B=>vI (c:=[A]) B (by simp)
 simp only[eD,List.map_nil]at hh
 rw[show(T.l ([]:List (List T)))=.l [] from rfl]at hh
 rw[auP]
 by_cases d1:((ov (scope x.store e.ae) list).length:Int)>0
 ·have Em:¬(ov (scope x.store e.ae) list).length=0:=by omega
  by_cases d2:((ov list (scope x.store e.ae)).length:Int)>0
  ·have xG:¬(ov list (scope x.store e.ae)).length=0:=by omega
   simp(disch:=omega) only[↓pQ,pS,↓reduceIte,aj,ak,ap,aq,au,av,aw,ax,ay,Si,hs,xR,Jz,hh,d1,d2,Em,xG,p1,p2,a1,a2]
   rfl
  ·have xG:(ov list (scope x.store e.ae)).length=0:=by omega
   simp(disch:=omega) only[↓pQ,pS,↓reduceIte,aj,ak,ap,aq,au,av,aw,ax,ay,Si,hs,xR,Jz,hh,d1,d2,Em,xG,p1,p2,a1,a2]
   rfl
 ·have Em:(ov (scope x.store e.ae) list).length=0:=by omega
  by_cases d2:((ov list (scope x.store e.ae)).length:Int)>0
  ·have xG:¬(ov list (scope x.store e.ae)).length=0:=by omega
   simp(disch:=omega) only[↓pQ,pS,↓reduceIte,aj,ak,ap,aq,au,av,aw,ax,ay,Si,hs,xR,Jz,hh,d1,d2,Em,xG,p1,p2,a1,a2]
   rfl
  ·have xG:(ov list (scope x.store e.ae)).length=0:=by omega
   simp(disch:=omega) only[↓pQ,pS,↓reduceIte,aj,ak,ap,aq,au,av,aw,ax,ay,Si,hs,xR,Jz,hh,d1,d2,Em,xG,p1,p2,a1,a2]
   rfl
theorem En{p:aW}(h:yH p=true):p.heard.length<=6∧p.list.length<=150∧aR p.list:=by
 rw[Jt]at h
 unfold xE at h
 simp only[bD]at h
 have h1:=h.2.1
 have h2:=h.2.2.1.2
 unfold rY at h1
 refine⟨I6 (n:=6) ?_ ?_,wo h2,SB h2⟩
 ·have:=aew (by intro a b c;simp;omega) h1
  exact this.imp (by intro a b;simp)
 ·intro x hx
  have:=E_ h1 x hx
  exact bg.1 this
theorem ayr(n:Node)(p:aW)(h1:n.self.net.aE.length<=1048576)(h2:n.self.net.aM.length<=1048576)(h3:n.self.heard.length<=1048576)(h4:n.self.store.length<=1048576)(h5:aR n.self.store)(h6:n.cU.length<=1048576)
  (q1:p.heard.length<=1048576)(q2:p.list.length<=1048576)(q3:aR p.list):
  q5_ (jk n++eD p)=some (jk (vJ n p).1++[.l ((vJ n p).2.map eD)]):=by
 obtain⟨x,es⟩:=n
 simp only at h1 h2 h3 h4 h5 h6
 simp only[jk,eD,List.cons_append,List.nil_append]
 have jh:=aym x es h1 h2 h3 h4 h5 (by omega)
 have cV:=avy x.id x.bh x.net.n x.net.aE x.net.aM x.heard x.store es h1 h2 h3 h4 h5 (by omega)
 rw[show(⟨⟨x.id,x.bh,⟨x.net.n,x.net.aE,x.net.aM⟩,x.heard,x.store⟩,es⟩:Node)=⟨x,es⟩ from rfl]at cV
 have bI:=aye (ii x.id) (ii x.bh) (ii x.net.n) (.l (x.net.aE.map dB)) (.l (x.net.aM.map ed)) (.l (x.heard.map aB)) (.l (x.store.map ai)) es p.gp p.ae (by omega)
 have jG:=ayj p (by omega) (by omega) q3
 simp only[eD]at jG
 have bf:fk es p.gp p.ae<es.length:=sm _ _
 rw[auV]
 unfold vJ
 simp only
 by_cases c1:l_ ⟨x,es⟩=true
 ·by_cases c2:yH p=true
  ·have IV:es.length<=1000:=by have:=(A0 c1).2.2;show es.length<=_;simp only at this;omega
   have q1':p.heard.length<=1000:=by have:=(En c2).1;omega
   have q2':p.list.length<=1000:=by have:=(En c2).2.1;omega
   by_cases c3:p.to=x.id
   ·by_cases c4:fk es p.gp p.ae<0
    ·rw[if_neg (λh=>h.2.2.2 c4)]
     rw[c1]at cV;rw[c2]at jG
     simp(disch:=omega) only[↓pQ,pS,↓reduceIte,aj,ak,ap,aq,au,av,aw,ax,ay,E0,jh,bI,cV,jG,eq_true c3,c4]
     rfl
    ·rw[if_pos ⟨c1,c2,c3,c4⟩]
     rw[c1]at cV;rw[c2]at jG
     have rZ:0<=fk es p.gp p.ae:=by omega
     have qB:=(A0 c1).1
     by_cases c5:p.kind=1
     ·rw[if_pos c5]
      obtain⟨SC,l1,p1,p2⟩:=afg (es:=es) (k:=fk es p.gp p.ae) (b:=p.heard.contains x.id) rZ bf
      have hc:=P_ p.heard x.id (by omega)
      have hA:=Ej c1
      unfold Jw
      simp only
      have uH:=Rb es (fk es p.gp p.ae) (p.heard.contains x.id)
      generalize rk es (fk es p.gp p.ae) (p.heard.contains x.id)=p9 at p2 uH
      have hb:=adJ p9 (by omega)
      have vW:=j3_ p9
      have hR:=aeU {x with heard:=kj p9} h1 h2 (by show(kj p9).length<=_;omega) h4 h5
      have hF:=Jy (x:={x with heard:=kj p9}) h5 (by show(kj p9).length<=_;omega)
      have hO:gZ (jN {x with heard:=kj p9}).2:=by
       unfold jN
       split
       ·unfold wm
        split
        ·exact jb_ _ _
        ·exact .nil
       ·exact .nil
      generalize jN {x with heard:=kj p9}=y at hR hF hO
      simp only[iB,List.cons_append,List.nil_append]at hR
      have hw:=afj y.1 p9 [] (-1) y.2 (by omega) (by simp) (by have:=hF.len;omega) (by simp[aR]) hF.aV (ii y.1.bh) (ii y.1.net.n) (.l (y.1.net.aE.map dB)) (.l (y.1.net.aM.map ed)) (.l (y.1.heard.map aB)) (.l (y.1.store.map ai))
      rw[afn (λr hr z hz=>by cases hz) hO]at hw
      have e0:T.l (List.map ai [])=.l []:=rfl
      rw[e0]at hw
      have lp:=xg (enc:=b8) rZ bf
      have afo:=xg (enc:=b8) (l:=SC) rZ (by omega)
      simp(disch:=omega) only[↓pQ,pS,↓reduceIte,aj,ak,ap,aq,au,av,aw,ax,ay,E0,jh,bI,cV,jG,eq_true c3,c4,eq_true c5,hc,p1,p2,hb,hR,hw,lp,afo]
     ·rw[if_neg c5]
      have lp:=xg (enc:=b8) rZ bf
      cases c6:(gt es (fk es p.gp p.ae)).both with
      |false=>
       rw[if_neg (by simp)]
       simp(disch:=omega) only[↓pQ,pS,↓reduceIte,aj,ak,ap,aq,au,av,aw,ax,ay,E0,jh,bI,cV,jG,eq_true c3,c4,c5,rZ,bf,c6,lp,dh]
       rfl
      |true=>
       rw[if_pos rfl]
       by_cases c7:p.kind=2
       ·rw[if_pos c7]
        have hea:=(ayo c4).2
        have hs:=ayp x (gt es (fk es p.gp p.ae)) p.list (ii x.bh) (ii x.net.n) (.l (x.net.aE.map dB)) (.l (x.net.aM.map ed)) (.l (x.heard.map aB)) (.l (es.map b8)) (ii (gt es (fk es p.gp p.ae)).left) (bb (gt es (fk es p.gp p.ae)).both) (ii p.kind) (ii p.gp) (ii p.to) (.l (p.heard.map aB)) h4 h5 q2' q3
        rw[c6]at hs
        rw[hea]at hs
        simp(disch:=omega) only[↓pQ,pS,↓reduceIte,aj,ak,ap,aq,au,av,aw,ax,ay,E0,jh,bI,cV,jG,eq_true c3,c4,c5,rZ,bf,c6,eq_true c7,lp,hea,hs]
       ·rw[if_neg c7]
        have hL:=axX x p.list h1 h2 h3 h4 h5 (by omega) q3
        unfold Jx
        simp only
        have cf:=Jm qB
        have SD:vG x p.list=E' x.store p.list:=by unfold vG;rw[if_pos qB]
        have Ri:=Rc p.list (x.store,[]) q3 h5 (by simp[aR])
        obtain⟨g1,g2,g3⟩:=Re p.list (x.store,[]) cf (by simp)
        have GV:=wo g1
        rw[show p.list.foldl li (x.store,[])=E' x.store p.list from rfl,<-SD]at Ri g1 g2 g3 GV
        generalize vG x p.list=z at hL Ri GV g1 g2 g3
        obtain⟨z1,z2,z3⟩:=Ri
        have hz3:z.2.length<=1000:=by simp only[List.length_nil]at z3;omega
        have hR:=aeU {x with store:=z.1} h1 h2 h3 (by show z.1.length<=_;omega) z1
        have hF:=Jy (x:={x with store:=z.1}) z1 h3
        have hO:=Rg (x:={x with store:=z.1}) (Jn qB g1)
        have hnw:∀r∈(jN {x with store:=z.1}).2,∀y∈z.2,dO y r=true->y.seq<r.seq:=by
         intro r hr y hy hk
         obtain⟨o,ho,hko,sC⟩:=(g3 y hy).1
         have:=hO.Ky r hr
         rw[Rf (tH g1) ho (ur hko hk)]at this
         omega
        have hOs:=hO.sorted
        generalize jN {x with store:=z.1}=y at hR hF hOs hnw
        simp only[iB,List.cons_append,List.nil_append]at hR
        have hFl:=hF.len
        have hw:=afj y.1 es z.2 (fk es p.gp p.ae) y.2 IV hz3 (by omega) z2 hF.aV (ii y.1.bh) (ii y.1.net.n) (.l (y.1.net.aE.map dB)) (.l (y.1.net.aM.map ed)) (.l (y.1.heard.map aB)) (.l (y.1.store.map ai))
        rw[afn hnw hOs]at hw
        simp(disch:=omega) only[↓pQ,pS,↓reduceIte,aj,ak,ap,aq,au,av,aw,ax,ay,E0,jh,bI,cV,jG,eq_true c3,c4,c5,rZ,bf,c6,c7,lp,hL,hR,hw]
   ·rw[if_neg (λh=>c3 h.2.2.1)]
    rw[c1]at cV;rw[c2]at jG
    simp(disch:=omega) only[↓pQ,pS,↓reduceIte,aj,ak,ap,aq,au,av,aw,ax,ay,E0,jh,bI,cV,jG,c3]
    rfl
  ·rw[if_neg (λh=>c2 h.2.1)]
   rw[c1]at cV;rw[Bool.eq_false_iff.2 c2]at jG
   simp(disch:=omega) only[↓pQ,pS,↓reduceIte,aj,ak,ap,aq,au,av,aw,ax,ay,E0,jh,bI,cV,jG,dh]
   rfl
 ·rw[if_neg (λh=>c1 h.1)]
  rw[Bool.eq_false_iff.2 c1]at cV
  simp(disch:=omega) only[↓pQ,pS,↓reduceIte,aj,ak,ap,aq,au,av,aw,ax,ay,E0,jh,bI,cV,dh]
  rfl
structure Eo (id:Int) (es:List dk) (p:aW):Prop where
 gp:p.gp=id
 ear:(p.to,p.ae)∈es.map uv
 ok:yH p=true
theorem afq{x:Self}{es:List dk}(hN:yw x.net=true)(h:fj x es){v a:Int}(hp:(v,a)∈es.map uv):(1<=v∧v<=6)∧(0<=a∧a<=2)∧v≠x.id:=by
 have hA:=Q8 x.net.aE x.id x.net.n.toNat
 have hA:nY x.net.aE x.id ((x.net.n.toNat:Int)+1) 0 (q8 x.net.aE x.id x.net.n):=hA
 rw[h]at hp
 obtain⟨e,he,e1⟩:=List.mem_map.1 hp
 have hv:e.node=v:=(Prod.mk.inj e1).1
 have ha:e.ae=a:=(Prod.mk.inj e1).2
 have h1:=(hA.2 e he).1
 have h2:=ue _ _ h1
 have h3:=sm (iE x.id e.node e.ae) x.net.aE
 obtain⟨_,_,_,hl,_⟩:=yE hN
 have h4:=bY.1 hl (eV (iE x.id e.node e.ae) x.net.aE).toNat (by omega)
 rw[show(((eV (iE x.id e.node e.ae) x.net.aE).toNat:Nat):Int)=eV (iE x.id e.node e.ae) x.net.aE by omega]at h4
 simp only[iE,bD,Bool.or_eq_true,beq_iff_eq]at h2
 simp only[bD,nA,bg,decide_eq_true_eq]at h4
 omega
theorem ayu{p:aW}(hk:1<=p.kind∧p.kind<=3)(hf:1<=p.gp∧p.gp<=6)(ht:1<=p.to∧p.to<=6)(dH:p.gp≠p.to)(ha:0<=p.ae∧p.ae<=2)(hu:rY p.heard=true)
  (h1:if p.kind=1 then p.list.length=0 else p.heard.length=0)(hs:df p.list=true)(hl:∀r∈p.list,ot p.ae r=true∧(p.kind=2->ri r=true)):yH p=true:=by
 unfold yH
 simp only[bD,bg,Bool.not_eq_true',beq_eq_false_iff_ne,ne_eq]
 refine⟨⟨⟨⟨⟨⟨⟨⟨hk,hf⟩,ht⟩,dH⟩,ha⟩,hu⟩,?_⟩,hs⟩,List.all_eq_true.2 λr hr=>?_⟩
 ·split at h1<;>rename_i c
  ·rw[if_pos c];exact decide_eq_true h1
  ·rw[if_neg c];exact decide_eq_true h1
 ·have:=hl r hr
  rw[this.1,Bool.true_and]
  by_cases c:p.kind=2
  ·rw[this.2 c];simp
  ·simp[c]
theorem Rk{s:List ah}(h:gZ s)(hr:∀r∈s,eW r=true)(hl:s.length<=150)(a:Int):df (scope s a)=true∧∀r∈scope s a,ot a r=true:=
 ⟨Ee (List.Pairwise.filter _ h) (λr h=>hr r (List.mem_filter.1 h).1) (Nat.le_trans (List.length_filter_le _ _) hl),λr h=>(List.mem_filter.1 h).2⟩
theorem ayv{r:ah}(h:eW r=true):eW (tS r)=true:=by
 unfold eW at h⊢
 unfold tS
 simp only[bD]at h⊢
 refine⟨h.1,?_⟩
 have h2:=h.2
 by_cases k1:r.kind=1
 ·rw[if_pos k1]at h2⊢
  simp only[bD,decide_eq_true_eq]at h2
  rw[k1]
  simp[h2.1.1.1.1,h2.1.1.1.2,wh,kC,decide_eq_true]
 ·rw[if_neg k1]at h2⊢
  by_cases k2:r.kind=2
  ·rw[if_pos k2]at h2⊢
   simp only[bD,decide_eq_true_eq]at h2
   rw[k2]
   simp[gj]
   exact⟨bg.1 h2.1.1.1.1,bg.1 h2.1.1.1.2⟩
  ·rw[if_neg k2]at h2⊢
   by_cases k3:r.kind=3
   ·rw[if_pos k3]at h2⊢
    simp only[bD,decide_eq_true_eq]at h2
    rw[k3]
    simp[h2.1.1.1,h2.1.1.2,gj]
    have:=h2.1.1.2
    rw[bg]at this
    omega
   ·rw[if_neg k3]at h2;cases h2
theorem ayw(r:ah):ri (tS r)=true:=by
 unfold ri tS wi dO E2
 simp[kC]
theorem afr{s:List ah}(h:df s=true)(a:Int):df (Jj s a)=true∧∀r∈Jj s a,ot a r=true∧((2:Int)=2->ri r=true):=by
 have hr:=E_ (by unfold df at h;simp only[bD]at h;exact h.2:ei eW fo s=true)
 obtain⟨h1,h2⟩:=Rk (tH h) hr (wo h) a
 refine⟨Ee (List.pairwise_map.2 ((tH h1).imp λ{x y} q=>q)) (λr iM=>?_) (by unfold Jj;rw[List.length_map];exact wo h1),λr iM=>?_⟩
 ·obtain⟨y,hy,rfl⟩:=List.mem_map.1 iM
  exact ayv (hr y (List.mem_filter.1 hy).1)
 ·obtain⟨y,hy,rfl⟩:=List.mem_map.1 iM
  exact⟨h2 y hy,λ_=>ayw y⟩
theorem Rl{x:Self}{es:List dk}(hx:kf x=true)(hA:fj x es){e:dk}(he:e∈es){k:Int}(hk:k=2∨k=3){l:List ah}(hs:df l=true)(hl:∀r∈l,ot e.ae r=true∧(k=2->ri r=true)):Eo x.id es ⟨k,x.id,e.node,e.ae,[],l⟩:=by
 obtain⟨hN,gG,_⟩:=qi hx
 have hn:=(yE hN).1
 have hm:(e.node,e.ae)∈es.map uv:=List.mem_map_of_mem he
 obtain⟨h1,h2,h3⟩:=afq hN hA hm
 refine⟨rfl,hm,ayu (by show 1<=k∧k<=3;omega) (by show 1<=x.id∧x.id<=6;omega) h1 (λc=>h3 c.symm) h2 rfl ?_ hs hl⟩
 rw[if_neg (by show¬k=1;omega)]
 rfl
theorem ayx{id:Int}{e:dk}{w:List ah}{p:aW}(h:p∈yI id e w):p=⟨3,id,e.node,e.ae,[],w⟩:=by
 unfold yI at h
 split at h
 ·split at h
  ·cases h
  ·exact List.mem_singleton.1 h
 ·cases h
theorem ayy{id:Int}{es:List dk}{k:Int}{all gu:List ah}{p:aW}(h:p∈A1 id es k all gu):∃e∈es,∃w,(w=all∨w=gu)∧p=⟨3,id,e.node,e.ae,[],scope w e.ae⟩:=by
 unfold A1 at h
 have:∀(l:List Nat) (c:List aW),(∀i∈l,i<es.length)->p∈l.foldl (λc (i:Nat)=>c++yI id (gt es (i:Int)) (scope (if(i:Int)=k then gu else all) (gt es (i:Int)).ae)) c->
   p∈c∨∃e∈es,∃w,(w=all∨w=gu)∧p=⟨3,id,e.node,e.ae,[],scope w e.ae⟩:=by
  intro l
  induction l with
  |nil=>intro c _ h;exact .inl h
  |cons i l ih=>
   intro c hl h
   rw[List.foldl_cons]at h
   rcases ih _ (λj hj=>hl j (.tail _ hj)) h with h|h
   ·rcases List.mem_append.1 h with h|h
    ·exact .inl h
    ·refine .inr ⟨gt es (i:Int),lg (by omega) (by have:=hl i (.head _);omega),if(i:Int)=k then gu else all,by split<;>simp,?_⟩
     exact ayx h
   ·exact .inr h
 rcases this _ [] (λi hi=>List.mem_range.1 hi) h with h|h
 ·cases h
 ·exact h
theorem afs(id:Int)(es:List dk)(k:Int)(all gu:List ah):(A1 id es k all gu).length<=es.length:=by
 have:=J6 (l:=List.range es.length) (g:=λ(c:List aW) (i:Nat)=>c++yI id (gt es (i:Int)) (scope (if(i:Int)=k then gu else all) (gt es (i:Int)).ae)) (c:=[]) (Inv:=λi (c:List aW)=>c.length<=i) (by simp) (λi c hi hc=>by
  have:=Jv id (gt es ((gt (List.range es.length) (i:Int):Nat):Int)) (scope (if((gt (List.range es.length) (i:Int):Nat):Int)=k then gu else all) (gt es ((gt (List.range es.length) (i:Int):Nat):Int)).ae)
  rw[List.length_append];omega)
 rw[List.length_range]at this
 exact this
theorem aft{cA own s:List ah}(hs:df s=true)(h1:∀r∈cA,Has s r r.seq∧eW r=true)(h2:∀r∈own,r∈s)(h3:∀r∈own,eW r=true)(h4:∀r∈own,∀x∈cA,dO x r=true->x.seq<r.seq)(hp:gZ own)(a:Int):
  df (scope (nB cA own) a)=true∧∀r∈scope (nB cA own) a,ot a r=true:=by
 have e1:nB cA own=eM same (eM same [] cA) own:=Ju (λr hr x hx hk=>by
  rcases Ao hx with h1|⟨y,hy,e⟩
  ·cases h1
  ·exact h4 r hr x (by have e:x=y:=e;rw[e];exact hy) hk) (Rh hp)
 rw[e1]
 have hS:gZ (eM same (eM same [] cA) own):=Jq (Jq .nil)
 have hm:∀r∈eM same (eM same [] cA) own,r∈cA∨r∈own:=by
  intro r hr
  rcases Ao hr with h|⟨y,hy,e⟩
  ·rcases Ao h with h|⟨y,hy,e⟩
   ·cases h
   ·exact .inl (by have e:r=y:=e;rw[e];exact hy)
  ·exact .inr (by have e:r=y:=e;rw[e];exact hy)
 refine Rk hS (λr hr=>?_) (Nat.le_trans (uo_ hS (tH hs) λr hr=>?_) (wo hs)) a
 ·rcases hm r hr with h|h
  ·exact(h1 r h).2
  ·exact h3 r h
 ·rcases hm r hr with h|h
  ·obtain⟨x,hx,hk,_⟩:=(h1 r h).1
   exact⟨x,hx,D9 hk⟩
  ·exact⟨r,h2 r h,E9 r⟩
theorem Rm{x:Self}{es:List dk}(h:l_ ⟨x,es⟩=true){s:List ah}(hs:df s=true):l_ ⟨{x with store:=s},es⟩=true:=by
 unfold l_ at h⊢
 simp only[bD]at h⊢
 exact⟨Jn h.1 hs,h.2⟩
theorem afu{n:Node}(h:l_ n=true):∀e∈n.cU,Ap e:=by
 intro e he
 obtain⟨i,hi,rfl⟩:=List.mem_iff_getElem.1 he
 unfold l_ DM at h
 simp only[bD,decide_eq_true_eq]at h
 have:=bY.1 h.2.1.2 i hi
 rw[eC hi]at this
 unfold AW at this
 simp only[bD,bg,Bool.not_eq_true',decide_eq_true_eq]at this
 refine⟨this.2.2.1,λhb=>?_⟩
 have h2:=this.2.2.2
 rw[hb]at h2
 simpa using h2
theorem ayz{x:Self}{es:List dk}(h:fj x es){k:Int}(h0:0<=k)(h1:k<es.length)(b:Bool):fj x (rk es k b):=by
 unfold fj at h⊢
 rw[<-h]
 unfold rk
 rw[List.map_set]
 refine List.ext_getElem (by simp) λi h2 h3=>?_
 rw[List.getElem_set]
 split
 ·rename_i e
  obtain⟨m,rfl⟩:∃m:Nat,k=m:=⟨k.toNat,by omega⟩
  simp only[Int.toNat_natCast]at e
  subst e
  rw[eC (by omega),List.getElem_map]
  rfl
 ·rfl
theorem ayA{es:List dk}(h:∀e∈es,Ap e)(k:Int)(b:Bool):∀e∈rk es k b,Ap e:=by
 intro e he
 unfold rk at he
 rcases List.mem_or_eq_of_mem_set he with he|rfl
 ·exact h e he
 ·exact⟨by show(0:Int)<=3∧(3:Int)<=3;decide,λ_=>by show(3:Int)≠0;decide⟩
structure Ep (n:Node) (r:Node×List aW):Prop where
 ok:l_ r.1=true
 has:∀x∈n.self.store,Has r.1.self.store x x.seq
 says:∀p∈r.2,Eo n.self.id n.cU p
 few:r.2.length<=36
theorem ayB{x:Self}{es p9:List dk}(h:fj x es)(h2:fj x p9){id:Int}{p:aW}(hp:Eo id p9 p):Eo id es p:=
 ⟨hp.gp,by have:=hp.ear;rw[h2]at this;rw[h];exact this,hp.ok⟩
theorem ayC{n:Node}(h:l_ n=true){es:List dk}(hA:fj n.self es)(hL:∀e∈es,Ap e):
  l_ ⟨(jN {n.self with heard:=kj es}).1,es⟩=true∧afl {n.self with heard:=kj es} (jN {n.self with heard:=kj es}):=by
 have hx:=(A0 h).1
 have hO:=Rg (Q9 hx hA)
 refine⟨?_,hO⟩
 have:=Rm (ayb hx hA hL) hO.store
 rw[hO.same]
 exact this
theorem afv{n:Node}{y:Self}{es:List dk}{cA own:List ah}{k:Int}(hN:l_ ⟨y,es⟩=true)(gG:y.id=n.self.id)(hA:fj n.self n.cU)(Rx:fj n.self es)
  (h1:∀r∈cA,Has y.store r r.seq∧eW r=true)(h2:∀r∈own,r∈y.store)(h3:∀r∈own,eW r=true)(h4:∀r∈own,∀x∈cA,dO x r=true->x.seq<r.seq)(hp:gZ own):
  ∀p∈A1 y.id es k (nB cA own) (nB [] own),Eo n.self.id n.cU p:=by
 intro p hpp
 have hs:=(A0 hN).1
 have cf:=(qi hs).2.2.2.2.2
 have hAt:=Ej hN
 obtain⟨e,he,w,hw,rfl⟩:=ayy hpp
 have xQ:df (scope w e.ae)=true∧∀r∈scope w e.ae,ot e.ae r=true:=by
  rcases hw with rfl|rfl
  ·exact aft cf h1 h2 h3 h4 hp e.ae
  ·exact aft cf (by intro r hr;cases hr) h2 h3 (by intro r hr x hx;cases hx) hp e.ae
 have:=Rl hs hAt he (.inr rfl) xQ.1 (λr hr=>⟨xQ.2 r hr,λc=>by cases c⟩)
 rw[gG]at this⊢
 exact ayB hA Rx this
theorem ayE{n:Node}(h:l_ n=true)(p:aW):Ep n (vJ n p):=by
 have hA:=Ej h
 have hx:=(A0 h).1
 have ED:=(A0 h).2.2
 have cf:=(qi hx).2.2.2.2.2
 have stay:Ep n (n,[]):=⟨h,λr hr=>El hr,(by intro p hp;cases hp),by simp⟩
 unfold vJ
 split
 ·rename_i hc
  have bf:fk n.cU p.gp p.ae<n.cU.length:=sm _ _
  have h0:0<=fk n.cU p.gp p.ae:=by omega
  split
  ·unfold Jw
   simp only
   generalize hE:rk n.cU (fk n.cU p.gp p.ae) (p.heard.contains n.self.id)=es
   have Rx:fj n.self es:=hE▸ayz hA h0 bf _
   have hL2:∀e∈es,Ap e:=hE▸ayA (afu h) _ _
   have uH:es.length=n.cU.length:=hE▸Rb _ _ _
   obtain⟨cV,hO⟩:=ayC h Rx hL2
   have gG:(jN {n.self with heard:=kj es}).1.id=n.self.id:=by rw[hO.same]
   generalize jN {n.self with heard:=kj es}=y at cV hO gG
   have se:=afs y.1.id es (-1) (nB [] y.2) (nB [] y.2)
   exact⟨cV,λr hr=>hO.has r hr,afv (cA:=[]) cV gG hA Rx (by intro r hr;cases hr) hO.mem hO.rok (by intro r hr x hx;cases hx) hO.sorted,by show(A1 _ _ _ _ _).length<=36;omega⟩
  ·split
   ·split
    ·refine⟨h,λr hr=>El hr,λq hq=>?_,?_⟩
     ·have he:gt n.cU (fk n.cU p.gp p.ae)∈n.cU:=lg h0 bf
      generalize gt n.cU (fk n.cU p.gp p.ae)=e at he hq
      have afw:=E_ (by unfold df at cf;simp only[bD]at cf;exact cf.2:ei eW fo n.self.store=true)
      obtain⟨s1,s2⟩:=Rk (tH cf) afw (wo cf) e.ae
      unfold xF at hq
      rcases List.mem_append.1 hq with hq|hq
      ·split at hq
       ·cases hq
       ·rw[List.mem_singleton.1 hq]
        have s3:df (ov (scope n.self.store e.ae) p.list)=true:=Ee (List.Pairwise.filter _ (tH s1)) (λr hr=>afw r (List.mem_filter.1 (List.mem_filter.1 hr).1).1) (Nat.le_trans (List.length_filter_le _ _) (wo s1))
        exact Rl hx hA he (.inr rfl) s3 (λr hr=>⟨s2 r (List.mem_filter.1 hr).1,λc=>by cases c⟩)
      ·split at hq
       ·cases hq
       ·rw[List.mem_singleton.1 hq]
        exact Rl hx hA he (.inl rfl) (afr cf e.ae).1 (afr cf e.ae).2
     ·show(xF _ _ _).length<=36
      unfold xF
      rw[List.length_append]
      split<;>split<;>simp
    ·unfold Jx
     simp only
     obtain⟨g1,g2,g3⟩:=Re p.list (n.self.store,[]) cf (by simp)
     have SD:vG n.self p.list=E' n.self.store p.list:=by unfold vG;rw[if_pos hx]
     rw[show p.list.foldl li (n.self.store,[])=E' n.self.store p.list from rfl,<-SD]at g1 g2 g3
     generalize vG n.self p.list=z at g1 g2 g3
     have hO:=Rg (x:={n.self with store:=z.1}) (Jn hx g1)
     have cV:=Rm h (s:=z.1) g1
     have zl:=Rm cV hO.store
     have hnw:∀r∈(jN {n.self with store:=z.1}).2,∀y∈z.2,dO y r=true->y.seq<r.seq:=by
      intro r hr y hy hk
      obtain⟨o,ho,hko,sC⟩:=(g3 y hy).1
      have:=hO.Ky r hr
      rw[Rf (tH g1) ho (ur hko hk)]at this
      omega
     have gG:(jN {n.self with store:=z.1}).1.id=n.self.id:=by rw[hO.same]
     rw[show l_ ⟨{n.self with store:=(jN {n.self with store:=z.1}).1.store},n.cU⟩=l_ ⟨(jN {n.self with store:=z.1}).1,n.cU⟩ from by conv=>rhs;rw[hO.same]]at zl
     generalize jN {n.self with store:=z.1}=y at zl hO gG hnw
     have hh:∀r m,Has z.1 r m->Has y.1.store r m:=by
      rintro r m ⟨o,ho,hk,hm⟩
      obtain⟨q,hq,hkq,hmq⟩:=hO.has o ho
      exact⟨q,hq,ur hkq hk,by omega⟩
     have se:=afs y.1.id n.cU (fk n.cU p.gp p.ae) (nB z.2 y.2) (nB [] y.2)
     exact⟨zl,λr hr=>hh r _ (g2 r _ (El hr)),afv zl gG hA hA (λr hr=>⟨hh r _ (g3 r hr).1,(g3 r hr).2⟩) hO.mem hO.rok hnw hO.sorted,by show(A1 _ _ _ _ _).length<=36;omega⟩
   ·exact stay
 ·exact stay
theorem lC{n:Int}(h:-1000000<=n)(h':n<=1000000):jD n:=jD.mk (by omega) (by omega)
theorem Aq{α:Type}{f:α->Nat}(hf:∀x,f x=0):∀l:List α,fb f l=l.length
 | []=>rfl
 |a::l=>by simp only[fb,Aq hf l,hf a,List.length_cons];omega
theorem afx{s:List ah}(h:df s=true):(∀r∈s,zO r)∧fb zP s<=1050:=by
 have hr:=E_ (by unfold df at h;simp only[bD]at h;exact h.2:ei eW fo s=true)
 have h1:=axy λr hh=>(aeV (hr r hh)).2
 have:=wo h
 exact⟨λr hh=>(aeV (hr r hh)).1,by omega⟩
theorem afy{p:aW}(h:yH p=true):MV p∧CH p<=1100:=by
 obtain⟨h1,h2,h3⟩:=En h
 rw[Jt]at h
 unfold xE at h
 simp only[bD,bg]at h
 obtain⟨s1,s2⟩:=afx h.2.2.1.2
 have hu:=h.2.1
 unfold rY at hu
 have hi:∀x∈p.heard,vl x:=λx hx=>by
  have:=bg.1 (E_ hu x hx)
  exact lC (by omega) (by omega)
 refine⟨⟨lC (by omega) (by omega),lC (by omega) (by omega),lC (by omega) (by omega),lC (by omega) (by omega),⟨by unfold maxLen;omega,hi⟩,⟨by unfold maxLen;omega,s1⟩⟩,?_⟩
 unfold CH
 rw[Aq (f:=tg) (λ_=>rfl)]
 omega
theorem ayF{l:List aW}(h:∀p∈l,yH p=true)(hl:l.length<=36):(∀p∈l,MV p)∧fb CH l<=40000:=by
 refine⟨λp hp=>(afy (h p hp)).1,?_⟩
 have:∀m:List aW,(∀p∈m,yH p=true)->fb CH m<=1101*m.length:=by
  intro m
  induction m with
  |nil=>intro _;simp[fb]
  |cons a m ih=>
   intro hm
   have h1:=(afy (hm a (.head _))).2
   have h2:=ih λp hp=>hm p (.tail _ hp)
   simp only[fb,List.length_cons]
   omega
 have:=this l h
 omega
theorem ayG{n:Node}(h:l_ n=true):vm n∧AD n<=2000:=by
 obtain⟨⟨id,bt,⟨m,ls,ths⟩,hd,st⟩,es⟩:=n
 obtain⟨hs,hle,he⟩:=A0 h
 obtain⟨hN,gG,ki,jy,ua,cf⟩:=qi hs
 obtain⟨hm,hl,ht,hA,hT⟩:=yE hN
 simp only at hs hle he hN gG ki jy ua cf hm hl ht hA hT
 obtain⟨s1,s2⟩:=afx cf
 have hAt:=Ej h
 have hlf:=afu h
 have hh:kj es=hd:=by
  unfold l_ at h
  simp only[bD]at h
  exact ju.1 h.2.2
 have vW:=j3_ es
 rw[hh]at vW
 have e1:∀x∈ls,G5 x:=λx hx=>by
  have:=E_ hA x hx
  simp only[nA,bD,bg,decide_eq_true_eq]at this
  exact⟨lC (by omega) (by omega),lC (by omega) (by omega),lC (by omega) (by omega),lC (by omega) (by omega)⟩
 have e2:∀x∈ths,G6 x:=λx hx=>by
  have:=E_ hT x hx
  simp only[xl,bD,bg]at this
  exact⟨lC (by omega) (by omega),lC (by omega) (by omega),lC (by omega) (by omega)⟩
 have e5:∀x∈es,CG x:=λx hx=>by
  have h1:=afq hN hAt (List.mem_map_of_mem (f:=uv) hx)
  have h2:=(hlf x hx).1
  exact⟨lC (by omega) (by omega),lC (by omega) (by omega),lC (by omega) (by omega)⟩
 have e3:∀x∈hd,vl x:=by
  rw[<-hh]
  have:∀(l:List dk) (c:List Int),(∀e∈l,CG e)->(∀x∈c,vl x)->∀x∈l.foldl DL c,vl x:=by
   intro l
   induction l with
   |nil=>intro c _ h;exact h
   |cons a l ih=>
    intro c hl hc
    rw[List.foldl_cons]
    refine ih _ (λe he=>hl e (.tail _ he)) λx hx=>?_
    unfold DL at hx
    split at hx
    ·rcases List.mem_append.1 hx with hx|hx
     ·exact hc x hx
     ·have:=hl a (.head _)
      simp only[List.mem_cons,List.not_mem_nil,or_false]at hx
      rcases hx with rfl|rfl
      ·exact this.1
      ·exact this.2.1
    ·exact hc x hx
  exact this es [] e5 (by simp)
 have se:=wo cf
 refine⟨⟨lC (by show _<=id;omega) (by show id<=_;omega),lC (by show _<=bt;omega) (by show bt<=_;omega),lC (by show _<=m;omega) (by show m<=_;omega),⟨by unfold maxLen;show ls.length<=_;omega,e1⟩,⟨by unfold maxLen;show ths.length<=_;omega,e2⟩,⟨by unfold maxLen;show hd.length<=_;omega,e3⟩,⟨by unfold maxLen;show st.length<=_;omega,s1⟩,⟨by unfold maxLen;show es.length<=_;omega,e5⟩⟩,?_⟩
 unfold AD
 show fb zM ls+fb zN ths+fb tg hd+fb zP st+fb zQ es<=_
 rw[Aq (f:=tg) (λ_=>rfl),Aq (f:=zQ) (λ_=>rfl),Aq (f:=zM) (λ_=>rfl),Aq (f:=zN) (λ_=>rfl)]
 omega
theorem Rn{S:Nat->af}{R:Nat}{K:List af}{ρ:List T}{k:PL}{v:Value}:PL.den S R K ρ (.join k (.go 0 [.k v]))=PL.den S R K (ρ++[T.c v]) k:=rfl
theorem pg{S:Nat->af}{out:Option (List T)}{K:List af}(es:List Ty)(w c s p n:Nat){rest:PL}{ρ:List T}{xs:List (List T)}(hF:RR S es.length es 0 (vg es w 0))(hl:es.length<=64)(hm:mA es=true)
  (hp:ρ.length=p)(hs:s<p)(ht:ρ.getD s T.cE=.l xs)(hc:Lf.ev ρ (.a c)=.c (.int .i64 (n:Int)))(hw:∀r∈xs,cW es r)(hb:gV xs<=1048576)(hn:n+64*gV xs<=1099511627776)
  (hk:∀f:af,PL.den S rounds (f::K) (ρ++[T.c (.int .i64 ((dg (de es) n xs).1:Int)),T.c (.int .i64 (xs.length:Int)),.l (dg (de es) n xs).2,T.c (.int .i64 (xs.length:Int)),T.c (.bool false)]) rest=out):
  PL.den S rounds K ρ (RQ (vg es w 0) [] (.a c) s p λ_ _ _=>rest)=out:=aj5 hF hl hm hp hs ht hc hw hb hn hk
theorem rG(es:List Ty)(hm:mA es=true)(hl:es.length<=63){xs:List (List T)}(hw:∀r∈xs,cW es r)(n:Nat):n<=(dg (de es) n xs).1∧(dg (de es) n xs).1<=n+64*gV xs:=
 GM (g:=de es) (xs:=xs) (λm r hr=>by
  have:=zH es m r hm (hw r hr)
  omega) n
theorem SE{F:af}{es:List Ty}(hF:EM F [.sl es])(n:Nat){xs:List (List T)}(hl:xs.length<=maxLen)(hw:∀r∈xs,cW es r)(hb:gV xs<=1048576)(hn:n<=1000000000):
  F [.l (dg (de es) n xs).2,.c (.int .i64 (n:Int))]=some [.c (.int .i64 ((dg (de es) n xs).1:Int))]:=by
 have hbb:lN [T.l xs]<=1048576:=by rw[fa,fy,fv];omega
 have e:=hF n [.l xs] (V0 hl hw) hbb (by omega)
 rw[Cq,JY,Cr]at e
 exact e
theorem ayI(a b c:Int)(n0:Nat){l1 l2 l3 l4:List (List T)}(h0:n0<=1000)
  (m1:l1.length<=maxLen)(w1:∀r∈l1,cW rz r)(m2:l2.length<=maxLen)(w2:∀r∈l2,cW rA r)(m3:l3.length<=maxLen)(w3:∀r∈l3,cW iz r)(m4:l4.length<=maxLen)(w4:∀r∈l4,cW iA r)
  (hb:gV l1+gV l2+gV l3+gV l4<=1048576){n1 n2 n3 n4:Nat}(q1:n1=(dg (de rz) n0 l1).1)(q2:n2=(dg (de rA) n1 l2).1)(q3:n3=(dg (de iz) n2 l3).1)(q4:n4=(dg (de iA) n3 l4).1):
  Dv [.c (.int .i64 a),.c (.int .i64 b),.c (.int .i64 c),.l (dg (de rz) n0 l1).2,.l (dg (de rA) n1 l2).2,.l (dg (de iz) n2 l3).2,.l (dg (de iA) n3 l4).2,.c (.int .i64 (n0:Int))]=some [.c (.int .i64 (n4:Int))]:=by
 have b1:=rG rz rfl (by decide) w1 n0
 rw[<-q1]at b1
 have b2:=rG rA rfl (by decide) w2 n1
 rw[<-q2]at b2
 have b3:=rG iz rfl (by decide) w3 n2
 rw[<-q3]at b3
 have b4:=rG iA rfl (by decide) w4 n3
 rw[<-q4]at b4
 have e1:=SE (es:=rz) ard n0 m1 w1 (by omega) (by omega)
 rw[<-q1]at e1
 have e2:=SE (es:=rA) arf n1 m2 w2 (by omega) (by omega)
 rw[<-q2]at e2
 have e3:=SE (es:=iz) ac2 n2 m3 w3 (by omega) (by omega)
 rw[<-q3]at e3
 have e4:=SE (es:=iA) ac3 n3 m4 w4 (by omega) (by omega)
 rw[<-q4]at e4
 have z1:¬((n1:Int)<0):=by omega
 have z2:¬((n2:Int)<0):=by omega
 have z3:¬((n3:Int)<0):=by omega
 have z4:¬((n4:Int)<0):=by omega
 have ayJ:ND 210=HV:=rfl
 have ayK:ND 211=HW:=rfl
 have eN:Dt [.c (.int .i64 c),.l (dg (de rz) n0 l1).2,.l (dg (de rA) n1 l2).2,.c (.int .i64 (n0:Int))]=some [.c (.int .i64 (n2:Int))]:=by
  simp(implicitDefEqProofs:=false) only[Dt,oK,pb,fS,ayJ,ayK,e1,e2,z1,z2]
 have ayL:HX 123=qH_:=rfl
 have ayM:HX 122=Du:=rfl
 have ayN:HX 145=Dt:=rfl
 simp(implicitDefEqProofs:=false) only[Dv,mW,pb,fS,ayL,ayM,ayN,eN,e3,e4,z2,z3,z4]
theorem ayO(a b c:Int)(n0:Nat){l1 l2 l3 l4 l5:List (List T)}(h0:n0<=1000)
  (m1:l1.length<=maxLen)(w1:∀r∈l1,cW rz r)(m2:l2.length<=maxLen)(w2:∀r∈l2,cW rA r)(m3:l3.length<=maxLen)(w3:∀r∈l3,cW iz r)(m4:l4.length<=maxLen)(w4:∀r∈l4,cW iA r)(m5:l5.length<=maxLen)(w5:∀r∈l5,cW lQ r)
  (hb:gV l1+gV l2+gV l3+gV l4<=1048576)(hb5:gV l5<=1048576){n1 n2 n3 n4 n5:Nat}(q1:n1=(dg (de rz) n0 l1).1)(q2:n2=(dg (de rA) n1 l2).1)(q3:n3=(dg (de iz) n2 l3).1)(q4:n4=(dg (de iA) n3 l4).1)(q5:n5=(dg (de lQ) n4 l5).1):
  R0 [.c (.int .i64 a),.c (.int .i64 b),.c (.int .i64 c),.l (dg (de rz) n0 l1).2,.l (dg (de rA) n1 l2).2,.l (dg (de iz) n2 l3).2,.l (dg (de iA) n3 l4).2,.l (dg (de lQ) n4 l5).2,.c (.int .i64 (n0:Int))]=some [.c (.int .i64 (n5:Int))]:=by
 have e1:=ayI a b c n0 h0 m1 w1 m2 w2 m3 w3 m4 w4 hb q1 q2 q3 q4
 have b1:=rG rz rfl (by decide) w1 n0
 rw[<-q1]at b1
 have b2:=rG rA rfl (by decide) w2 n1
 rw[<-q2]at b2
 have b3:=rG iz rfl (by decide) w3 n2
 rw[<-q3]at b3
 have b4:=rG iA rfl (by decide) w4 n3
 rw[<-q4]at b4
 have b5:=rG lQ rfl (by decide) w5 n4
 rw[<-q5]at b5
 have e2:=SE (es:=lQ) ari n4 m5 w5 hb5 (by omega)
 rw[<-q5]at e2
 have z4:¬((n4:Int)<0):=by omega
 have z5:¬((n5:Int)<0):=by omega
 have ayP:NF 120=Dv:=rfl
 have ayQ:NF 121=HY:=rfl
 simp(implicitDefEqProofs:=false) only[R0,mX,pb,fS,ayP,ayQ,e1,e2,z4,z5]
theorem ayR{n:Node}{r:Node×List aW}(h:Ep n r):vm r.1∧AD r.1<=1048576∧(∀p∈r.2,MV p)∧fb CH r.2<=40000∧r.2.length<=36:=by
 obtain⟨h1,h2⟩:=ayG h.ok
 obtain⟨h3,h4⟩:=ayF (λp hp=>(h.says p hp).ok) h.few
 exact⟨h1,by omega,h3,h4,h.few⟩
theorem ayS{n:Node}(h:vm n)(hb:AD n<=1048576):vm (n,([]:List aW)).1∧AD (n,([]:List aW)).1<=1048576∧(∀p∈(n,([]:List aW)).2,MV p)∧fb CH (n,([]:List aW)).2<=40000∧(n,([]:List aW)).2.length<=36:=
 ⟨h,hb,by simp,by simp[fb],by simp⟩
theorem ayT{n:Node}(p:aW)(h:vm n)(hb:AD n<=1048576):vm (vJ n p).1∧AD (vJ n p).1<=1048576∧(∀q∈(vJ n p).2,MV q)∧fb CH (vJ n p).2<=40000∧(vJ n p).2.length<=36:=by
 cases hk:l_ n with
 |true=>exact ayR (ayE hk p)
 |false=>
  have e:vJ n p=(n,[]):=by unfold vJ;rw[if_neg (by rw[hk];simp)]
  rw[e]
  exact ayS h hb
theorem Er(k id a b:Int)(w:List ah):Prim.ev (.lit 6 [true,true,true,true,false,false]) [ii k,ii id,ii a,ii b,.l [],.l (w.map ai)]=some (.l [eD ⟨k,id,a,b,[],w⟩]):=MW k id a b [] w
theorem ayU(x:Self)(es:List dk)(but:Int)(all gu:List ah)(he:es.length<=1000)(h1:all.length<=1048576)(h2:gu.length<=1048576)(n1:aR all)(n2:aR gu):
  iter (qd HJ (.l (es.map b8)) (ii but) (ii x.id) (ii x.bh) (ii x.net.n) (.l (x.net.aE.map dB)) (.l (x.net.aM.map ed)) (.l (x.heard.map aB)) (.l (x.store.map ai)) (.l (all.map ai)) (.l (gu.map ai)) (ii es.length)) rounds [.l [],ii 0]=
   some [ii x.id,ii x.bh,ii x.net.n,.l (x.net.aE.map dB),.l (x.net.aM.map ed),.l (x.heard.map aB),.l (x.store.map ai),.l (es.map b8),.l ((A1 x.id es but all gu).map eD)]:=by
 refine sn es.length (λi c=>[.l (c.map eD),ii i])
  (λc i=>c++yI x.id (gt es (i:Int)) (scope (if(i:Int)=but then gu else all) (gt es (i:Int)).ae)) (λc=>some [ii x.id,ii x.bh,ii x.net.n,.l (x.net.aE.map dB),.l (x.net.aM.map ed),.l (x.heard.map aB),.l (x.store.map ai),.l (es.map b8),T.l (c.map eD)]) []
  (λi c=>c.length<=i) rfl (dG (by omega)) (by simp) ?_ ?_
 ·intro i c hi hc
  refine⟨by have:=Jv x.id (gt es (i:Int)) (scope (if(i:Int)=but then gu else all) (gt es (i:Int)).ae);rw[List.length_append];omega,λq=>?_⟩
  have e1:=DN all (gt es (i:Int)).ae h1 n1
  have e2:=DN gu (gt es (i:Int)).ae h2 n2
  unfold yI
  cases hb:(gt es (i:Int)).both with
  |false=>
   by_cases c1:(i:Int)=but
   ·subst c1
    simp(disch:=omega) only[↓pQ,pS,↓reduceIte,aj,ak,ap,aq,au,av,aw,ax,ay,qd,qe,hi,e1,e2,hb,dh]
    simp
   ·simp(disch:=omega) only[↓pQ,pS,↓reduceIte,aj,ak,ap,aq,au,av,aw,ax,ay,qd,qe,hi,e1,e2,c1,hb,dh]
    simp
  |true=>
   by_cases c1:(i:Int)=but
   ·subst c1
    rw[if_pos rfl]
    by_cases c2:((scope gu (gt es (i:Int)).ae).length:Int)>0
    ·have c3:¬(scope gu (gt es (i:Int)).ae).length=0:=by omega
     have p1:=Er 3 x.id (gt es (i:Int)).node (gt es (i:Int)).ae (scope gu (gt es (i:Int)).ae)
     have p2:=vI (c:=c) ⟨3,x.id,(gt es (i:Int)).node,(gt es (i:Int)).ae,[],scope gu (gt es (i:Int)).ae⟩ (by omega)
     simp(disch:=omega) only[↓pQ,pS,↓reduceIte,aj,ak,ap,aq,au,av,aw,ax,ay,qd,qe,hi,e1,e2,hb,c2,c3,p1,p2]
    ·have c3:(scope gu (gt es (i:Int)).ae).length=0:=by omega
     simp(disch:=omega) only[↓pQ,pS,↓reduceIte,aj,ak,ap,aq,au,av,aw,ax,ay,qd,qe,hi,e1,e2,hb,c2,c3]
     simp
   ·rw[if_neg c1]
    by_cases c2:((scope all (gt es (i:Int)).ae).length:Int)>0
    ·have c3:¬(scope all (gt es (i:Int)).ae).length=0:=by omega
     have p1:=Er 3 x.id (gt es (i:Int)).node (gt es (i:Int)).ae (scope all (gt es (i:Int)).ae)
     have p2:=vI (c:=c) ⟨3,x.id,(gt es (i:Int)).node,(gt es (i:Int)).ae,[],scope all (gt es (i:Int)).ae⟩ (by omega)
     simp(disch:=omega) only[↓pQ,pS,↓reduceIte,aj,ak,ap,aq,au,av,aw,ax,ay,qd,qe,hi,e1,e2,c1,hb,c2,c3,p1,p2]
    ·have c3:(scope all (gt es (i:Int)).ae).length=0:=by omega
     simp(disch:=omega) only[↓pQ,pS,↓reduceIte,aj,ak,ap,aq,au,av,aw,ax,ay,qd,qe,hi,e1,e2,c1,hb,c2,c3]
     simp
 ·intro c q hc
  simp(disch:=omega) only[↓pQ,pS,↓reduceIte,aj,ak,ap,aq,au,av,aw,ax,ay,qd,qe,]
theorem ayV(x:Self)(es:List dk)(all gu:List ah)(he:es.length<=1000)(h1:all.length<=1048576)(h2:gu.length<=1048576)(n1:aR all)(n2:aR gu):
  iter (qe HJ (.l (es.map b8)) (ii x.id) (ii x.bh) (ii x.net.n) (.l (x.net.aE.map dB)) (.l (x.net.aM.map ed)) (.l (x.heard.map aB)) (.l (x.store.map ai)) (.l (all.map ai)) (.l (gu.map ai)) (ii es.length)) rounds [.l [],ii 0]=
   some [ii x.id,ii x.bh,ii x.net.n,.l (x.net.aE.map dB),.l (x.net.aM.map ed),.l (x.heard.map aB),.l (x.store.map ai),.l (es.map b8),.l ((A1 x.id es (-1) all gu).map eD)]:=by
 refine sn es.length (λi c=>[.l (c.map eD),ii i])
  (λc i=>c++yI x.id (gt es (i:Int)) (scope (if(i:Int)=-1 then gu else all) (gt es (i:Int)).ae)) (λc=>some [ii x.id,ii x.bh,ii x.net.n,.l (x.net.aE.map dB),.l (x.net.aM.map ed),.l (x.heard.map aB),.l (x.store.map ai),.l (es.map b8),T.l (c.map eD)]) []
  (λi c=>c.length<=i) rfl (dG (by omega)) (by simp) ?_ ?_
 ·intro i c hi hc
  refine⟨by have:=Jv x.id (gt es (i:Int)) (scope (if(i:Int)=-1 then gu else all) (gt es (i:Int)).ae);rw[List.length_append];omega,λq=>?_⟩
  have e1:=DN all (gt es (i:Int)).ae h1 n1
  have c1:¬((i:Int)=-1):=by omega
  unfold yI
  rw[if_neg c1]
  cases hb:(gt es (i:Int)).both with
  |false=>
   simp(disch:=omega) only[↓pQ,pS,↓reduceIte,aj,ak,ap,aq,au,av,aw,ax,ay,qd,qe,hi,e1,c1,hb,dh]
   simp
  |true=>
   by_cases c2:((scope all (gt es (i:Int)).ae).length:Int)>0
   ·have c3:¬(scope all (gt es (i:Int)).ae).length=0:=by omega
    have p1:=Er 3 x.id (gt es (i:Int)).node (gt es (i:Int)).ae (scope all (gt es (i:Int)).ae)
    have p2:=vI (c:=c) ⟨3,x.id,(gt es (i:Int)).node,(gt es (i:Int)).ae,[],scope all (gt es (i:Int)).ae⟩ (by omega)
    simp(disch:=omega) only[↓pQ,pS,↓reduceIte,aj,ak,ap,aq,au,av,aw,ax,ay,qd,qe,hi,e1,c1,hb,c2,c3,p1,p2]
   ·have c3:(scope all (gt es (i:Int)).ae).length=0:=by omega
    simp(disch:=omega) only[↓pQ,pS,↓reduceIte,aj,ak,ap,aq,au,av,aw,ax,ay,qd,qe,hi,e1,c1,hb,c2,c3]
    simp
 ·intro c q hc
  simp(disch:=omega) only[↓pQ,pS,↓reduceIte,aj,ak,ap,aq,au,av,aw,ax,ay,qd,qe,]
theorem ayW(n:Node)(p:aW)(h1:n.self.net.aE.length<=1048576)(h2:n.self.net.aM.length<=1048576)(h3:n.self.heard.length<=1048576)(h4:n.self.store.length<=1048576)(h5:aR n.self.store)(h6:n.cU.length<=1048576)
  (q1:p.heard.length<=1048576)(q2:p.list.length<=1048576)(q3:aR p.list):
  jf_ (jk n++eD p)=some (jk (vJ n p).1++[.l ((vJ n p).2.map eD)]):=by
 obtain⟨x,es⟩:=n
 simp only at h1 h2 h3 h4 h5 h6
 simp only[jk,eD,List.cons_append,List.nil_append]
 have jh:=axE x es h1 h2 h3 h4 h5 (by omega)
 have cV:=avv x.id x.bh x.net.n x.net.aE x.net.aM x.heard x.store es h1 h2 h3 h4 h5 (by omega)
 rw[show(⟨⟨x.id,x.bh,⟨x.net.n,x.net.aE,x.net.aM⟩,x.heard,x.store⟩,es⟩:Node)=⟨x,es⟩ from rfl]at cV
 have bI:=ayd (ii x.id) (ii x.bh) (ii x.net.n) (.l (x.net.aE.map dB)) (.l (x.net.aM.map ed)) (.l (x.heard.map aB)) (.l (x.store.map ai)) es p.gp p.ae (by omega)
 have jG:=ayi p (by omega) (by omega) q3
 simp only[eD]at jG
 have bf:fk es p.gp p.ae<es.length:=sm _ _
 rw[avd]
 unfold vJ
 simp only
 by_cases c1:l_ ⟨x,es⟩=true
 ·by_cases c2:yH p=true
  ·have IV:es.length<=1000:=by have:=(A0 c1).2.2;show es.length<=_;simp only at this;omega
   have q1':p.heard.length<=1000:=by have:=(En c2).1;omega
   have q2':p.list.length<=1000:=by have:=(En c2).2.1;omega
   by_cases c3:p.to=x.id
   ·by_cases c4:fk es p.gp p.ae<0
    ·rw[if_neg (λh=>h.2.2.2 c4)]
     rw[c1]at cV;rw[c2]at jG
     simp(disch:=omega) only[↓pQ,pS,↓reduceIte,aj,ak,ap,aq,au,av,aw,ax,ay,qd,qe,z_,jh,bI,cV,jG,eq_true c3,c4]
     rfl
    ·rw[if_pos ⟨c1,c2,c3,c4⟩]
     rw[c1]at cV;rw[c2]at jG
     have rZ:0<=fk es p.gp p.ae:=by omega
     by_cases c5:p.kind=1
     ·rw[if_pos c5]
      obtain⟨SC,l1,p1,p2⟩:=afg (es:=es) (k:=fk es p.gp p.ae) (b:=p.heard.contains x.id) rZ bf
      have hc:=xo p.heard x.id (by omega)
      unfold Jw
      simp only
      have uH:=Rb es (fk es p.gp p.ae) (p.heard.contains x.id)
      generalize rk es (fk es p.gp p.ae) (p.heard.contains x.id)=p9 at p2 uH
      have hb:=adI p9 (by omega)
      have vW:=j3_ p9
      have hR:=aeS {x with heard:=kj p9} h1 h2 (by show(kj p9).length<=_;omega) h4 h5
      obtain⟨y1,y2,y3,y4,y5,y6⟩:=aeY (x:={x with heard:=kj p9}) h4 h5 (by show(kj p9).length<=_;omega)
      have hF:=Jy (x:={x with heard:=kj p9}) h5 (by show(kj p9).length<=_;omega)
      generalize jN {x with heard:=kj p9}=y at hR y1 y2 y3 y4 y5 y6 hF
      simp only[iB,List.cons_append,List.nil_append]at hR
      have hw:=Ra [] y.2 (by simp) (by have:=hF.len;omega) (by simp[aR]) hF.aV
      have hwf:=Q' (b:=y.2) Fit.nil hF.aV
      have kl:=ayV y.1 p9 (nB [] y.2) (nB [] y.2) (by omega) (by have:=hwf.len;have:=hF.len;show(nB [] y.2).length<=_;unfold nB;simp only[eM,List.foldl_nil]at *;omega)
       (by have:=hwf.len;have:=hF.len;show(nB [] y.2).length<=_;unfold nB;simp only[eM,List.foldl_nil]at *;omega) hwf.aV hwf.aV
      have e0:T.l (List.map ai [])=.l []:=rfl
      rw[e0]at hw
      have Es:Prim.ev .len [.l (p9.map b8)]=some (ii p9.length):=GY
      have lp:=xg (enc:=b8) rZ bf
      simp(disch:=omega) only[↓pQ,pS,↓reduceIte,aj,ak,ap,aq,au,av,aw,ax,ay,qd,qe,z_,jh,bI,cV,jG,eq_true c3,c4,eq_true c5,hc,p1,p2,hb,hR,hw,Es,lp]
      exact kl
     ·rw[if_neg c5]
      cases c6:(gt es (fk es p.gp p.ae)).both with
      |false=>
       rw[if_neg (by simp)]
       simp(disch:=omega) only[↓pQ,pS,↓reduceIte,aj,ak,ap,aq,au,av,aw,ax,ay,qd,qe,z_,jh,bI,cV,jG,eq_true c3,c4,c5,rZ,bf,c6,dh]
       rfl
      |true=>
       rw[if_pos rfl]
       have lp:=xg (enc:=b8) rZ bf
       by_cases c7:p.kind=2
       ·rw[if_pos c7]
        generalize hk:fk es p.gp p.ae=k at*
        have hs:=DN x.store (gt es k).ae h4 h5
        have se:(scope x.store (gt es k).ae).length<=1048576:=Nat.le_trans (adN _ _) h4
        have hsn:aR (scope x.store (gt es k).ae):=λr hr=>h5 r (List.mem_filter.1 hr).1
        have xR:=afd (scope x.store (gt es k).ae) p.list se hsn (by omega)
        have Jz:=afd p.list (scope x.store (gt es k).ae) (by omega) q3 se
        have hh:=axD x.store (gt es k).ae h4 h5
        unfold xF
        have p1:=Er 3 x.id (gt es k).node (gt es k).ae (ov (scope x.store (gt es k).ae) p.list)
        have p2:=Er 2 x.id (gt es k).node (gt es k).ae (Jj x.store (gt es k).ae)
        have a1:∀A:aW,Prim.ev (.app false 6) [.l [],.l [eD A]]=some (.l [eD A]):=λA=>vI (c:=[]) A (by simp)
        have a2:∀A B:aW,Prim.ev (.app false 6) [.l [eD A],.l [eD B]]=some (.l [eD A,eD B]):=λA B=>vI (c:=[A]) B (by simp)
        by_cases d1:((ov (scope x.store (gt es k).ae) p.list).length:Int)>0
        ·have Em:¬(ov (scope x.store (gt es k).ae) p.list).length=0:=by omega
         by_cases d2:((ov p.list (scope x.store (gt es k).ae)).length:Int)>0
         ·have xG:¬(ov p.list (scope x.store (gt es k).ae)).length=0:=by omega
          simp(disch:=omega) only[↓pQ,pS,↓reduceIte,aj,ak,ap,aq,au,av,aw,ax,ay,qd,qe,z_,jh,bI,cV,jG,eq_true c3,c4,c5,rZ,bf,c6,eq_true c7,lp,hs,xR,Jz,hh,d1,d2,Em,xG,p1,p2,a1,a2]
          rfl
         ·have xG:(ov p.list (scope x.store (gt es k).ae)).length=0:=by omega
          simp(disch:=omega) only[↓pQ,pS,↓reduceIte,aj,ak,ap,aq,au,av,aw,ax,ay,qd,qe,z_,jh,bI,cV,jG,eq_true c3,c4,c5,rZ,bf,c6,eq_true c7,lp,hs,xR,Jz,hh,d1,d2,Em,xG,p1,p2,a1,a2]
          rfl
        ·have Em:(ov (scope x.store (gt es k).ae) p.list).length=0:=by omega
         by_cases d2:((ov p.list (scope x.store (gt es k).ae)).length:Int)>0
         ·have xG:¬(ov p.list (scope x.store (gt es k).ae)).length=0:=by omega
          simp(disch:=omega) only[↓pQ,pS,↓reduceIte,aj,ak,ap,aq,au,av,aw,ax,ay,qd,qe,z_,jh,bI,cV,jG,eq_true c3,c4,c5,rZ,bf,c6,eq_true c7,lp,hs,xR,Jz,hh,d1,d2,Em,xG,p1,p2,a1,a2]
          rfl
         ·have xG:(ov p.list (scope x.store (gt es k).ae)).length=0:=by omega
          simp(disch:=omega) only[↓pQ,pS,↓reduceIte,aj,ak,ap,aq,au,av,aw,ax,ay,qd,qe,z_,jh,bI,cV,jG,eq_true c3,c4,c5,rZ,bf,c6,eq_true c7,lp,hs,xR,Jz,hh,d1,d2,Em,xG,p1,p2,a1,a2]
          rfl
       ·rw[if_neg c7]
        have hL:=axW x p.list h1 h2 h3 h4 h5 (by omega) q3
        unfold Jx
        simp only
        have cf:=Jm (A0 c1).1
        have qB:=(A0 c1).1
        have SD:vG x p.list=E' x.store p.list:=by unfold vG;rw[if_pos qB]
        have Ri:=Rc p.list (x.store,[]) q3 h5 (by simp[aR])
        have nF:=axT (l:=p.list) cf
        have GV:=wo nF
        rw[show p.list.foldl li (x.store,[])=E' x.store p.list from rfl,<-SD]at Ri
        rw[<-SD]at GV
        generalize vG x p.list=z at hL Ri GV
        obtain⟨z1,z2,z3⟩:=Ri
        have hz3:z.2.length<=1000:=by simp only[List.length_nil]at z3;omega
        have hR:=aeS {x with store:=z.1} h1 h2 h3 (by show z.1.length<=_;omega) z1
        obtain⟨y1,y2,y3,y4,y5,y6⟩:=aeY (x:={x with store:=z.1}) (by show z.1.length<=_;omega) z1 h3
        have hF:=Jy (x:={x with store:=z.1}) z1 h3
        generalize jN {x with store:=z.1}=y at hR y1 y2 y3 y4 y5 y6 hF
        simp only[iB,List.cons_append,List.nil_append]at hR
        have hFl:=hF.len
        have hw1:=Ra z.2 y.2 hz3 (by omega) z2 hF.aV
        have xQ:=Ra [] y.2 (by simp) (by omega) (by simp[aR]) hF.aV
        have f1:=Q' (b:=y.2) (Fit.mb (f:=same) (l:=z.2) (λr hr=>z2 r hr) Fit.nil) hF.aV
        have f2:=Q' (b:=y.2) Fit.nil hF.aV
        have l1:(nB z.2 y.2).length<=1048576:=by have:=f1.len;unfold nB;omega
        have l2:(nB [] y.2).length<=1048576:=by have:=f2.len;unfold nB;simp only[eM,List.foldl_nil]at *;omega
        have kl:=ayU y.1 es (fk es p.gp p.ae) (nB z.2 y.2) (nB [] y.2) IV l1 l2 f1.aV f2.aV
        have e0:T.l (List.map ai [])=.l []:=rfl
        rw[e0]at xQ
        have Es:Prim.ev .len [.l (es.map b8)]=some (ii es.length):=GY
        simp(disch:=omega) only[↓pQ,pS,↓reduceIte,aj,ak,ap,aq,au,av,aw,ax,ay,qd,qe,z_,jh,bI,cV,jG,eq_true c3,c4,c5,rZ,bf,c6,c7,lp,hL,hR,hw1,xQ,Es]
        exact kl
   ·rw[if_neg (λh=>c3 h.2.2.1)]
    rw[c1]at cV;rw[c2]at jG
    simp(disch:=omega) only[↓pQ,pS,↓reduceIte,aj,ak,ap,aq,au,av,aw,ax,ay,qd,qe,z_,jh,bI,cV,jG,c3]
    rfl
  ·rw[if_neg (λh=>c2 h.2.1)]
   rw[c1]at cV;rw[Bool.eq_false_iff.2 c2]at jG
   simp(disch:=omega) only[↓pQ,pS,↓reduceIte,aj,ak,ap,aq,au,av,aw,ax,ay,qd,qe,z_,jh,bI,cV,jG,dh]
   rfl
 ·rw[if_neg (λh=>c1 h.1)]
  rw[Bool.eq_false_iff.2 c1]at cV
  simp(disch:=omega) only[↓pQ,pS,↓reduceIte,aj,ak,ap,aq,au,av,aw,ax,ay,qd,qe,z_,jh,bI,cV,dh]
  rfl
end Go.Proofs.YtjimmglpkndemaaGreatC
