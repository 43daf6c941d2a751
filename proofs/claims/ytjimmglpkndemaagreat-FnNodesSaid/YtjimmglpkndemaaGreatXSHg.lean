/- A drawn node is right. Conditions: none. -/
import Derived.Test.YtjimmglpkndemaaGreatXSZb
namespace Go.Proofs.YtjimmglpkndemaaGreatC
attribute [local irreducible] jp
open Int renaming reduceLE -> af, reduceLT -> ah, reduceEq -> ai, reduceGT -> aj, reduceGE -> ak, reduceAdd -> ap, reduceSub -> aq, reduceMul -> au, reduceNeg -> av
set_option linter.unusedVariables false
set_option linter.unusedSimpArgs false
theorem avJ{s:List ay}{n v:Int}(h:0<=n)(h':n<s.length):Prim.ev (.put true 8 4 1) [.l (s.map aw),ii n,ii v]=some (.l ((s.set n.toNat {gt s n with seq:=v}).map aw)):=
 AD (enc:=aw) (x:={gt s n with seq:=v}) h h' (λ_=>rfl) (by decide) rfl rfl rfl
theorem avK{s:List ay}{n v:Int}(h:0<=n)(h':n<s.length):Prim.ev (.put true 8 6 1) [.l (s.map aw),ii n,ii v]=some (.l ((s.set n.toNat {gt s n with cost:=v}).map aw)):=
 AD (enc:=aw) (x:={gt s n with cost:=v}) h h' (λ_=>rfl) (by decide) rfl rfl rfl
theorem ad3{s:List cO}{n v:Int}(h:0<=n)(h':n<s.length):Prim.ev (.put true 4 2 1) [.l (s.map bG),ii n,ii v]=some (.l ((s.set n.toNat {gt s n with left:=v}).map bG)):=
 AD (enc:=bG) (x:={gt s n with left:=v}) h h' (λ_=>rfl) (by decide) rfl rfl rfl
theorem ad4{s:List cO}{n:Int}{v:Bool}(h:0<=n)(h':n<s.length):Prim.ev (.put true 4 3 1) [.l (s.map bG),ii n,bb v]=some (.l ((s.set n.toNat {gt s n with both:=v}).map bG)):=
 AD (enc:=bG) (x:={gt s n with both:=v}) h h' (λ_=>rfl) (by decide) rfl rfl rfl
theorem ad5{s:List ay}(h:aQ s){i:Nat}{r:ay}(hr:r.aX.length<=1048576):aQ (s.set i r):=by
 intro y hy
 rcases List.mem_or_eq_of_mem_set hy with hy|rfl
 ·exact h y hy
 ·exact hr
def SdP(B:List Int)(o:Option (List T)):Prop:=
 ∃(p:bd) (i' h':Int),o=some [ii p.kind,ii p.fQ,ii p.to,ii p.ae,.l (p.heard.map aE),.l (p.list.map aw),.l (B.map gm),ii i',ii h']∧(p.heard.length<=11∧p.list.length<=201∧aQ p.list)∧0<=i'∧i'<=B.length
set_option maxHeartbeats 2000000 in
theorem avL{B:List Int}(hB:∀x∈B,rO x)(hl:B.length<=1048576){i:Int}(h:Int)(hi:0<=i)(aU:i<=B.length)(id:Int)(t4 t5 t6 t7 t8:T)(st:List ay)(es:List cO)(hs:st.length<=150)(hn:aQ st)(he:es.length<=18):
  SdP B (YL [.l (B.map gm),ii i,ii h,ii id,t4,t5,t6,t7,t8,.l (st.map aw),.l (es.map bG)]):=by
 rw[ap4]
 obtain⟨p,i,h,e1,⟨p1,p2,p3⟩,hi,aU⟩:=adV hB hl h hi aU
 have e2:=adW p (by omega) (by omega) p3
 have vF:Prim.ev .len [.l (es.map bG)]=some (ii es.length):=B3
 by_cases c0:(es.length:Int)=0
 ·obtain⟨q,i,h,e3,hq,hi,aU⟩:=adX hB hl h hi aU
  simp(disch:=omega) only[↓pq,↓pj,ps,pz,↓reduceIte,af,ah,ai,aj,ak,ap,aq,au,av,zf,I5,e1,e2,vF,c0,e3]
  exact⟨q,i,h,rfl,hq,hi,aU⟩
 obtain⟨f,i,h,e3,hi,aU⟩:=zR hB hl h hi aU 12 (by omega) (by omega)
 cases f with
 |true=>
  obtain⟨q,i,h,e4,hq,hi,aU⟩:=adX hB hl h hi aU
  simp(disch:=omega) only[↓pq,↓pj,ps,pz,↓reduceIte,af,ah,ai,aj,ak,ap,aq,au,av,zf,I5,e1,e2,vF,c0,e3,e4]
  exact⟨q,i,h,rfl,hq,hi,aU⟩
 |false=>
  obtain⟨k,i,h,e4,hk,hi,aU⟩:=my hB hl h hi aU es.length (by omega) (by omega)
  obtain⟨s,i,h,e5,Q3,hi,aU⟩:=PH hB hl h hi aU
  have mf:k<es.length:=by omega
  have fin:∀(i h:Int) (s:List ay),0<=i->i<=B.length->s.length<=150->aQ s->∃(q:bd) (i' h':Int),
    (if p.kind=3 then some [ii p.kind,ii (gt es k).node,ii id,ii (gt es k).ae,.l (p.heard.map aE),.l ((scope s (gt es k).ae).map aw),.l (B.map gm),ii i,ii h]
     else if p.kind=2 then some [ii p.kind,ii (gt es k).node,ii id,ii (gt es k).ae,.l (p.heard.map aE),.l (((scope s (gt es k).ae).map pK).map aw),.l (B.map gm),ii i,ii h]
     else some [ii p.kind,ii (gt es k).node,ii id,ii (gt es k).ae,.l (p.heard.map aE),.l (p.list.map aw),.l (B.map gm),ii i,ii h])
    =some [ii q.kind,ii q.fQ,ii q.to,ii q.ae,.l (q.heard.map aE),.l (q.list.map aw),.l (B.map gm),ii i',ii h']∧(q.heard.length<=11∧q.list.length<=201∧aQ q.list)∧0<=i'∧i'<=B.length:=by
   intro i h s hi aU h1 h2
   by_cases k3:p.kind=3
   ·rw[if_pos k3]
    have:=PK (n:=201) (by omega:s.length<=201) h2 (gt es k).ae
    exact⟨⟨p.kind,(gt es k).node,id,(gt es k).ae,p.heard,scope s (gt es k).ae⟩,i,h,rfl,⟨by show p.heard.length<=11;omega,this⟩,hi,aU⟩
   ·rw[if_neg k3]
    by_cases k2:p.kind=2
    ·rw[if_pos k2]
     have:=PM (n:=201) (by omega:s.length<=201) (gt es k).ae
     exact⟨⟨p.kind,(gt es k).node,id,(gt es k).ae,p.heard,(scope s (gt es k).ae).map pK⟩,i,h,rfl,⟨by show p.heard.length<=11;omega,this⟩,hi,aU⟩
    ·rw[if_neg k2]
     exact⟨⟨p.kind,(gt es k).node,id,(gt es k).ae,p.heard,p.list⟩,i,h,rfl,⟨by show p.heard.length<=11;omega,by show p.list.length<=201;omega,p3⟩,hi,aU⟩
  obtain⟨g,i,h,e6,hi,aU⟩:=zR hB hl h hi aU 2 (by omega) (by omega)
  cases g with
  |false=>
   have eS:=zo s (gt es k).ae (by have:=Q3.2.1;omega) (w6 Q3.1)
   have eH:=H9 s (gt es k).ae (by have:=Q3.2.1;omega) (w6 Q3.1)
   obtain⟨q,i',h',eq,hq,ln,Iz⟩:=fin i h s hi aU (by have:=Q3.2.1;omega) (w6 Q3.1)
   refine⟨q,i',h',?_,hq,ln,Iz⟩
   rw[<-eq]
   by_cases k3:p.kind=3
   ·rw[if_pos k3]
    rw[k3]at e2
    simp(disch:=omega) only[↓pq,↓pj,ps,pz,↓reduceIte,af,ah,ai,aj,ak,ap,aq,au,av,zf,I5,e1,e2,vF,c0,e3,e4,mf,e5,e6,k3,eS,cE]
   ·rw[if_neg k3]
    by_cases k2:p.kind=2
    ·rw[if_pos k2]
     rw[k2]at e2
     simp(disch:=omega) only[↓pq,↓pj,ps,pz,↓reduceIte,af,ah,ai,aj,ak,ap,aq,au,av,zf,I5,e1,e2,vF,c0,e3,e4,mf,e5,e6,k2,eH,cE]
    ·rw[if_neg k2];simp(disch:=omega) only[↓pq,↓pj,ps,pz,↓reduceIte,af,ah,ai,aj,ak,ap,aq,au,av,zf,I5,e1,e2,vF,c0,e3,e4,mf,e5,e6,k3,k2,cE]
  |true=>
   have eL:=Ek st (by omega) hn
   simp(disch:=omega) only[↓pq,↓pj,ps,pz,↓reduceIte,af,ah,ai,aj,ak,ap,aq,au,av,zf,I5,e1,e2,vF,c0,e3,e4,mf,e5,e6,eL,cE]
   refine xZ (SdP B) (λm w=>∃(v:Nat) (i h:Int) (s:List ay),w=[ii v,.l (B.map gm),ii i,ii h,.l (s.map aw)]∧v<=st.length∧(0<=i∧i<=B.length)∧(s.length=st.length∧aQ s)∧m=st.length-v) ?_ st.length _ rounds ⟨0,i,h,st,rfl,by omega,⟨hi,aU⟩,⟨rfl,hn⟩,rfl⟩ (by unfold rounds;omega)
   rintro m w q ⟨v,i,h,s,rfl,hv,⟨hi,aU⟩,⟨oX,sX⟩,rfl⟩ hq
   by_cases cv:(v:Int)<s.length
   ·obtain⟨a,i,h,e7,ha,hi,aU⟩:=my hB hl h hi aU 3 (by omega) (by omega)
    obtain⟨b,i,h,e8,hi,aU⟩:=zR hB hl h hi aU 3 (by omega) (by omega)
    have hgn:=sX _ (iT (l:=s) (n:=(v:Int)) (by omega) cv)
    obtain⟨sq,PT⟩:∃sq,sq=IntKind.i64.wrap ((gt s (v:Int)).seq+a):=⟨_,rfl⟩
    have q1:=avJ (s:=s) (n:=(v:Int)) (v:=sq) (by omega) cv
    rw[Int.toNat_natCast]at q1
    have FV:=zr (l:=s) (i:=(v:Int)) (j:=(v:Int)) (x:={gt s (v:Int)with seq:=sq}) (by omega) cv (by omega)
    rw[if_pos rfl,Int.toNat_natCast]at FV
    have qH:(gt (s.set v {gt s (v:Int)with seq:=sq}) (v:Int)).kind=(gt s (v:Int)).kind:=by rw[FV]
    have avM:(s.set v {gt s (v:Int)with seq:=sq}).length=s.length:=List.length_set ..
    have DJ:aQ (s.set v {gt s (v:Int)with seq:=sq}):=ad5 sX hgn
    generalize s.set v {gt s (v:Int)with seq:=sq}=s1 at q1 FV qH avM DJ
    have PU:(v:Int)<s1.length:=by omega
    cases b with
    |false=>
     simp(disch:=omega) only[↓pq,↓pj,ps,pz,↓reduceIte,af,ah,ai,aj,ak,ap,aq,au,av,zf,cv,e7,e8,<-PT,q1,cE]
     exact hq (st.length-(v+1)) _ (by omega) ⟨v+1,i,h,s1,by rw[rG],by omega,⟨hi,aU⟩,⟨by omega,DJ⟩,rfl⟩
    |true=>
     by_cases ck:(gt s (v:Int)).kind=2
     ·obtain⟨d,i,h,e9,hd,hi,aU⟩:=my hB hl h hi aU 6 (by omega) (by omega)
      have q2:=avK (s:=s1) (n:=(v:Int)) (v:=d) (by omega) PU
      rw[Int.toNat_natCast]at q2
      have hg1:=DJ _ (iT (l:=s1) (n:=(v:Int)) (by omega) PU)
      rw[ck]at qH
      have nx:(s1.set v {gt s1 (v:Int)with cost:=d}).length=s1.length:=List.length_set ..
      have vH:aQ (s1.set v {gt s1 (v:Int)with cost:=d}):=ad5 DJ hg1
      generalize s1.set v {gt s1 (v:Int)with cost:=d}=s2 at q2 nx vH
      simp(disch:=omega) only[↓pq,↓pj,ps,pz,↓reduceIte,af,ah,ai,aj,ak,ap,aq,au,av,zf,cv,PU,e7,e8,<-PT,q1,qH,e9,q2]
      exact hq (st.length-(v+1)) _ (by omega) ⟨v+1,i,h,s2,by rw[rG],by omega,⟨hi,aU⟩,⟨by omega,vH⟩,rfl⟩
     ·have avN:¬(gt s1 (v:Int)).kind=2:=by rw[qH];exact ck
      simp(disch:=omega) only[↓pq,↓pj,ps,pz,↓reduceIte,af,ah,ai,aj,ak,ap,aq,au,av,zf,cv,PU,e7,e8,<-PT,q1,avN]
      exact hq (st.length-(v+1)) _ (by omega) ⟨v+1,i,h,s1,by rw[rG],by omega,⟨hi,aU⟩,⟨by omega,DJ⟩,rfl⟩
   ·have eS:=zo s (gt es k).ae (by omega) sX
    have eH:=H9 s (gt es k).ae (by omega) sX
    obtain⟨r,i',h',eq,hr,ln,Iz⟩:=fin i h s hi aU (by omega) sX
    refine⟨r,i',h',?_,hr,ln,Iz⟩
    rw[<-eq]
    by_cases k3:p.kind=3
    ·rw[if_pos k3]
     simp(disch:=omega) only[↓pq,↓pj,ps,pz,↓reduceIte,af,ah,ai,aj,ak,ap,aq,au,av,zf,cv,k3,eS]
    ·rw[if_neg k3]
     by_cases k2:p.kind=2
     ·rw[if_pos k2]
      simp(disch:=omega) only[↓pq,↓pj,ps,pz,↓reduceIte,af,ah,ai,aj,ak,ap,aq,au,av,zf,cv,k2,eH]
     ·rw[if_neg k2]
      simp(disch:=omega) only[↓pq,↓pj,ps,pz,↓reduceIte,af,ah,ai,aj,ak,ap,aq,au,av,zf,cv,k3,k2]
theorem PV{ls:List bH}{id:Int}{v:Nat}{c:List cO}(h:∀e∈c,e.left=0∧e.both=false)(a:Nat):∀e∈mI ls id v c a,e.left=0∧e.both=false:=by
 intro e he
 unfold mI at he
 split at he
 ·rcases List.mem_append.1 he with he|he
  ·exact h e he
  ·rw[List.mem_singleton]at he
   rw[he];exact⟨rfl,rfl⟩
 ·exact h e he
theorem avO(ls:List bH)(id n:Int):∀e∈nM ls id n,e.left=0∧e.both=false:=by
 unfold nM
 have:∀(l:List Nat) (c:List cO),(∀e∈c,e.left=0∧e.both=false)->∀e∈l.foldl (vz ls id) c,e.left=0∧e.both=false:=by
  intro l
  induction l with
  |nil=>intro c h;exact h
  |cons v l ih=>
   intro c h
   rw[List.foldl_cons]
   exact ih _ (PV (PV (PV h 0) 1) 2)
 exact this _ [] (by simp)
def Ev(e:cO):Prop:=(0<=e.left∧e.left<=3)∧(e.both=true->e.left≠0)
theorem ad6{x:Self}{es:List cO}(h:jf x=true)(hA:dT x es)(hL:∀e∈es,Ev e):j5 ⟨{x with heard:=iK es},es⟩=true:=by
 have hlen:es.length=(nM x.net.aB x.id x.net.n).length:=by have:=congrArg List.length hA;simpa using this
 unfold j5 AB
 simp only[bL,decide_eq_true_eq]
 refine⟨Ic h hA,⟨by omega,bW.2 λi hi=>?_⟩,by rw[jC]⟩
 have ln:i<(nM x.net.aB x.id x.net.n).length:=by omega
 have e1:rl es[i]=rl (nM x.net.aB x.id x.net.n)[i]:=by
  have h1:(es.map rl)[i]'(by simpa using hi)=((nM x.net.aB x.id x.net.n).map rl)[i]'(by simpa using ln):=by
   congr 1
  rw[List.getElem_map,List.getElem_map]at h1
  exact h1
 have h1:=(Prod.mk.inj e1).1
 have h2:=(Prod.mk.inj e1).2
 obtain⟨h3,h4⟩:=hL _ (List.getElem_mem hi)
 rw[eh hi,eh ln]
 unfold zn
 simp only[bL,be,decide_eq_true_eq,Bool.not_eq_true']
 refine⟨h1,h2,h3,?_⟩
 cases hb:es[i].both with
 |false=>rfl
 |true=>simpa using h4 hb
theorem avP{x:Self}(h:jf x=true):jf (uO x.net x.id x.aV)=true:=by
 unfold jf at h⊢
 simp only[bL,decide_eq_true_eq,be]at h⊢
 exact⟨h.1,h.2.1,h.2.2.1,⟨rfl,by unfold xQ;rw[bW];intro k hk;exact absurd hk (by simp[uO])⟩,rfl⟩
def NdP(B:List Int)(o:Option (List T)):Prop:=
 ∃(n:Node) (i' h':Int),o=some [ii n.self.id,ii n.self.aV,ii n.self.net.n,.l (n.self.net.aB.map cT),.l (n.self.net.aG.map dj),.l (n.self.heard.map aE),.l (n.self.store.map aw),.l (n.cq.map bG),.l (B.map gm),ii i',ii h']∧uU 1006 15 n∧0<=i'∧i'<=B.length
set_option maxHeartbeats 1000000 in
theorem avQ{B:List Int}(hB:∀x∈B,rO x)(hl:B.length<=1048576){i:Int}(h:Int)(hi:0<=i)(aU:i<=B.length):NdP B (X9 [.l (B.map gm),ii i,ii h]):=by
 rw[apO]
 obtain⟨x,i,h,e1,⟨hx,iS,⟨hs,oX,PT,RR⟩,ht,vH⟩,hi,aU⟩:=avv hB hl h hi aU
 have h3:(x.store.filter qw).length<=13:=by rw[if_neg (by decide)]at RR;omega
 obtain⟨hN,hid,az',jJ,uo,_⟩:=mJ hx
 obtain⟨n1,Bi,D3,hA,hT⟩:=rM hN
 have sX:=w6 hs
 have e2:=auP x.net x.id x.aV (by omega) (by omega)
 have h0:=avP hx
 unfold wZ at e2
 rw[if_pos h0]at e2
 obtain⟨y1,y2,y3,y4,y5,y6⟩:=H3 (x:=uO x.net x.id x.aV) (by simp[uO]) (by intro r hr;cases hr) (by simp[uO])
 generalize(jg (uO x.net x.id x.aV)).1=y at e2 y3 y4 y5 y6
 have y3:y.net=x.net:=y3
 have y5:y.id=x.id:=y5
 have y6:y.aV=x.aV:=y6
 simp only[jt,y3,y5,y6,List.cons_append,List.nil_append]at e2
 have vk:=Hb x.net.aB x.id x.net.n (by omega)
 simp(disch:=omega) only[↓pq,↓pj,ps,pz,↓reduceIte,af,ah,ai,aj,ak,ap,aq,au,av,QI,Nh,e1,e2]
 refine xZ (NdP B) (λm st=>∃(v:Nat) (i h:Int) (es:List cO),st=[ii v,.l (B.map gm),ii i,ii h,.l (es.map bG)]∧v<=es.length∧(0<=i∧i<=B.length)∧(dT x es∧∀e∈es,Ev e)∧m=18-v) ?_ 18 _ rounds ⟨0,i,h,nM x.net.aB x.id x.net.n,rfl,by omega,⟨hi,aU⟩,⟨rfl,λe he=>?_⟩,rfl⟩ (by unfold rounds;omega)
 ·rintro m st q ⟨v,i,h,es,rfl,hv,⟨hi,aU⟩,⟨hE,hL⟩,rfl⟩ hq
  have hlen:es.length=(nM x.net.aB x.id x.net.n).length:=by have:=congrArg List.length hE;simpa using this
  by_cases cv:(v:Int)<es.length
  ·obtain⟨d,i,h,e3,hd,hi,aU⟩:=my hB hl h hi aU 4 (by omega) (by omega)
   have q1:=ad3 (s:=es) (n:=(v:Int)) (v:=d) (by omega) cv
   rw[Int.toNat_natCast]at q1
   have FV:=zr (l:=es) (i:=(v:Int)) (j:=(v:Int)) (x:={gt es (v:Int)with left:=d}) (by omega) cv (by omega)
   rw[if_pos rfl,Int.toNat_natCast]at FV
   have mD:(es.set v {gt es (v:Int)with left:=d}).length=es.length:=List.length_set ..
   have q2:∀b:Bool,Prim.ev (.put true 4 3 1) [.l ((es.set v {gt es (v:Int)with left:=d}).map bG),ii (v:Int),bb b]=some (.l ((es.set v {gt es (v:Int)with left:=d,both:=b}).map bG)):=by
    intro b
    have:=ad4 (s:=es.set v {gt es (v:Int)with left:=d}) (n:=(v:Int)) (v:=b) (by omega) (by omega)
    rw[Int.toNat_natCast,FV,List.set_set]at this
    exact this
   have hld:(gt (es.set v {gt es (v:Int)with left:=d}) (v:Int)).left=d:=by rw[FV]
   have next:∀b:Bool,(b=true->d≠0)->dT x (es.set v {gt es (v:Int)with left:=d,both:=b})∧(∀e∈es.set v {gt es (v:Int)with left:=d,both:=b},Ev e)∧(es.set v {gt es (v:Int)with left:=d,both:=b}).length=es.length:=by
    intro b hb
    refine⟨?_,λe he=>?_,List.length_set ..⟩
    ·have qW:v<es.length:=by omega
     unfold dT at hE⊢
     rw[<-hE,List.map_set]
     have:rl {gt es (v:Int)with left:=d,both:=b}=(es.map rl)[v]'(by simpa using qW):=by rw[List.getElem_map,<-eh qW];rfl
     rw[this,List.set_getElem_self]
    ·rcases List.mem_or_eq_of_mem_set he with he|rfl
     ·exact hL e he
     ·exact⟨by show 0<=d∧d<=3;omega,hb⟩
   generalize es.set v {gt es (v:Int)with left:=d}=s1 at q1 q2 mD hld
   have PU:(v:Int)<s1.length:=by omega
   by_cases cd:d>0
   ·obtain⟨f,i,h,e4,hi,aU⟩:=zR hB hl h hi aU 4 (by omega) (by omega)
    have q3:=q2 (!f)
    obtain⟨k1,k2,k3⟩:=next (!f) (λ_=>by omega)
    generalize es.set v {gt es (v:Int)with left:=d,both:=!f}=s2 at q3 k1 k2 k3
    simp(disch:=omega) only[↓pq,↓pj,ps,pz,↓reduceIte,af,ah,ai,aj,ak,ap,aq,au,av,QI,cv,PU,e3,q1,hld,cd,e4,q3]
    exact hq (18-(v+1)) _ (by omega) ⟨v+1,i,h,s2,by rw[rG],by omega,⟨hi,aU⟩,⟨k1,k2⟩,rfl⟩
   ·have q3:=q2 false
    obtain⟨k1,k2,k3⟩:=next false (λhc=>by cases hc)
    generalize es.set v {gt es (v:Int)with left:=d,both:=false}=s2 at q3 k1 k2 k3
    simp(disch:=omega) only[↓pq,↓pj,ps,pz,↓reduceIte,af,ah,ai,aj,ak,ap,aq,au,av,QI,cv,PU,e3,q1,hld,cd,q3]
    exact hq (18-(v+1)) _ (by omega) ⟨v+1,i,h,s2,by rw[rG],by omega,⟨hi,aU⟩,⟨k1,k2⟩,rfl⟩
  ·have hH:=OE es (by omega)
   have D0:=Ic hx hE
   have sy:=OC es
   have cV:=ad6 hx hE hL
   obtain⟨f,i,h,e3,hi,aU⟩:=zR hB hl h hi aU 3 (by omega) (by omega)
   cases f with
   |true=>
    simp(disch:=omega) only[↓pq,↓pj,ps,pz,↓reduceIte,af,ah,ai,aj,ak,ap,aq,au,av,QI,cv,hH,e3]
    exact⟨⟨{x with heard:=iK es},es⟩,i,h,rfl,⟨cV,iS,λr hr=>by have:=PT r hr;omega,by show(x.store.filter qw).length<=15;omega,ht⟩,hi,aU⟩
   |false=>
    have j6:(∀r∈({x with heard:=iK es}:Self).store,r.seq<=5)∧(0:Int)<=5∧(5:Int)<=90000:=⟨PT,by decide,by decide⟩
    have FB:(({x with heard:=iK es}:Self).store.filter qw).length<=13∧13<=22:=⟨h3,by decide⟩
    have r1:=ad1 D0 iS j6 FB ht
    have r2:=PQ D0 iS j6 FB ht
    have eR:=H2 {x with heard:=iK es} (by show x.net.aB.length<=_;omega) (by show x.net.aG.length<=_;omega) (by show(iK es).length<=_;omega) (by show x.store.length<=_;omega) sX
    rw[r1]at eR
    simp only[ie,List.cons_append,List.nil_append]at eR
    simp(disch:=omega) only[↓pq,↓pj,ps,pz,↓reduceIte,af,ah,ai,aj,ak,ap,aq,au,av,QI,cv,hH,e3,eR,cE]
    refine⟨⟨{x with heard:=iK es,store:=uT {x with heard:=iK es}},es⟩,i,h,rfl,⟨?_,iS,λr hr=>?_,r2.2.2,ht⟩,hi,aU⟩
    ·have:=cV
     unfold j5 at this⊢
     simp only[bL]at this⊢
     exact⟨k3_ D0 (r2.ok (by decide)),this.2⟩
    ·rcases(uS (Q2 _ _)).1 hr with hr|⟨hr,_⟩
     ·have:=(PP D0 iS j6 hr).1;omega
     ·have:=PT r hr;omega
 ·have:=avO _ _ _ e he
  exact⟨by omega,λhb=>by rw[this.2]at hb;cases hb⟩
def ad7(o:Option (List T)):Prop:=
 ∃(n:Node) (p:bd),o=some [ii n.self.id,ii n.self.aV,ii n.self.net.n,.l (n.self.net.aB.map cT),.l (n.self.net.aG.map dj),.l (n.self.heard.map aE),.l (n.self.store.map aw),.l (n.cq.map bG),ii p.kind,ii p.fQ,ii p.to,ii p.ae,.l (p.heard.map aE),.l (p.list.map aw)]∧uU 1006 15 n∧p.heard.length<=11∧p.list.length<=201∧aQ p.list
theorem avS{B:List Int}(hB:∀x∈B,rO x)(hl:B.length<=1048576):ad7 (YO [.l (B.map gm)]):=by
 rw[ap7]
 have hn:Prim.ev .len [.l (B.map gm)]=some (ii B.length):=B3
 simp(disch:=omega) only[↓pq,↓pj,ps,pz,↓reduceIte,af,ah,ai,aj,ak,ap,aq,au,av,vo_,kH_,hn]
 refine au3 hB hl (po:=ad7) ?_ ?_ _
 ·intro q h k c1 c2
  obtain⟨m,a,c,d,e1,e2,e3,e4,e5,e6,e7⟩:=au' hB hl h c1
  exact⟨d,by simp(disch:=omega) only[↓pq,↓pj,ps,pz,↓reduceIte,af,ah,ai,aj,ak,ap,aq,au,av,vo_,hn,c1,c2,e1,e2,e3,e4,e5,e6,e7]⟩
 ·intro q h k hk
  obtain⟨n,i,h',e,hx,hi,aU⟩:=avQ hB hl h (i:=0) (by omega) (by omega)
  obtain⟨hs,_,vk⟩:=vE hx.ok
  have cn:=(mJ hs).2.2.2.2.2
  obtain⟨p,i,h',e2,hp,hi,aU⟩:=avL hB hl h' (i:=i) hi aU n.self.id (ii n.self.aV) (ii n.self.net.n) (.l (n.self.net.aB.map cT)) (.l (n.self.net.aG.map dj)) (.l (n.self.heard.map aE)) n.self.store n.cq (vI cn) (w6 cn) vk
  by_cases c1:(k:Int)<B.length
  ·have c2:¬(k:Int)<4000:=by omega
   simp(disch:=omega) only[↓pq,↓pj,ps,pz,↓reduceIte,af,ah,ai,aj,ak,ap,aq,au,av,vo_,hn,c1,c2,e,e2]
   exact⟨n,p,rfl,hx,hp⟩
  ·simp(disch:=omega) only[↓pq,↓pj,ps,pz,↓reduceIte,af,ah,ai,aj,ak,ap,aq,au,av,vo_,hn,c1,e,e2]
   exact⟨n,p,rfl,hx,hp⟩
theorem ad8(s:List ay)(r:ay)(t5 t6 t7:T)(h:s.length<=1048576):rI [.l (s.map aw),ii r.ae,ii r.kind,ii r.owner,ii r.key,ii r.seq,t5,t6,t7]=some [ii (bA s r)]:=He s r.ae r.kind r.owner r.key (ii r.seq) t5 t6 t7 h
theorem avT(s:List ay)(r:ay)(t5 t6 t7:T)(h:s.length<=1048576):xB [.l (s.map aw),ii r.ae,ii r.kind,ii r.owner,ii r.key,ii r.seq,t5,t6,t7]=some [ii (bA s r)]:=C9 s r.ae r.kind r.owner r.key (ii r.seq) t5 t6 t7 h
def w7(t:List ay)(r:ay):Bool:=decide (bA t r<0)||decide ((gt t (bA t r)).seq<r.seq)
def nS(s t:List ay):List ay:=s.filter (w7 t)
theorem ad9(s t:List ay)(h:s.length<=1048576)(hn:aQ s)(ht:t.length<=1048576):CT [.l (s.map aw),.l (t.map aw)]=some [.l ((nS s t).map aw)]:=by
 rw[arO];simp(disch:=omega) only[↓pq,↓pj,ps,pz,↓reduceIte,af,ah,ai,aj,ak,ap,aq,au,av,QK,Od]
 refine(gO s (λi c=>[.l (c.map aw),ii i]) (λc a=>if w7 t a=true then c++[a]else c) (λc=>some [T.l (c.map aw)]) [] (λi c=>c.length<=i) rfl (c_ h) (by simp) ?_ ?_).trans (by rw[y9,List.nil_append,<-nS])
 ·intro i c hi hc
  refine⟨by split<;>(try simp)<;>omega,λk=>?_⟩
  have h0:=hn.gt (n:=i) (by omega) hi
  have hk:=ad8 t (gt s i) (.l ((gt s i).aX.map eJ)) (ii (gt s i).cost) (bb (gt s i).e_) ht
  have bC:=HX t (gt s i)
  unfold w7
  by_cases c1:bA t (gt s i)<0
  ·simp(disch:=omega) only[↓pq,↓pj,ps,pz,↓reduceIte,af,ah,ai,aj,ak,ap,aq,au,av,QK,hi,Jb,hk,c1]
  ·have c2:0<=bA t (gt s i):=by omega
   by_cases c3:(gt t (bA t (gt s i))).seq<(gt s i).seq
   ·simp(disch:=omega) only[↓pq,↓pj,ps,pz,↓reduceIte,af,ah,ai,aj,ak,ap,aq,au,av,QK,hi,Jb,hk,c1,c2,c3,bC]
   ·simp(disch:=omega) only[↓pq,↓pj,ps,pz,↓reduceIte,af,ah,ai,aj,ak,ap,aq,au,av,QK,hi,Jb,hk,c1,c2,c3,bC]
 ·intro c k hc
  simp(disch:=omega) only[↓pq,↓pj,ps,pz,↓reduceIte,af,ah,ai,aj,ak,ap,aq,au,av,QK,]
theorem Ie(s t:List ay)(h:s.length<=1048576)(hn:aQ s)(ht:t.length<=1048576):Mm [.l (s.map aw),.l (t.map aw)]=some [.l ((nS s t).map aw)]:=by
 rw[asm];simp(disch:=omega) only[↓pq,↓pj,ps,pz,↓reduceIte,af,ah,ai,aj,ak,ap,aq,au,av,QN,Oo]
 refine(gO s (λi c=>[.l (c.map aw),ii i]) (λc a=>if w7 t a=true then c++[a]else c) (λc=>some [T.l (c.map aw)]) [] (λi c=>c.length<=i) rfl (c_ h) (by simp) ?_ ?_).trans (by rw[y9,List.nil_append,<-nS])
 ·intro i c hi hc
  refine⟨by split<;>(try simp)<;>omega,λk=>?_⟩
  have h0:=hn.gt (n:=i) (by omega) hi
  have hk:=avT t (gt s i) (.l ((gt s i).aX.map eJ)) (ii (gt s i).cost) (bb (gt s i).e_) ht
  have bC:=HX t (gt s i)
  unfold w7
  by_cases c1:bA t (gt s i)<0
  ·simp(disch:=omega) only[↓pq,↓pj,ps,pz,↓reduceIte,af,ah,ai,aj,ak,ap,aq,au,av,QN,hi,AC,hk,c1]
  ·have c2:0<=bA t (gt s i):=by omega
   by_cases c3:(gt t (bA t (gt s i))).seq<(gt s i).seq
   ·simp(disch:=omega) only[↓pq,↓pj,ps,pz,↓reduceIte,af,ah,ai,aj,ak,ap,aq,au,av,QN,hi,AC,hk,c1,c2,c3,bC]
   ·simp(disch:=omega) only[↓pq,↓pj,ps,pz,↓reduceIte,af,ah,ai,aj,ak,ap,aq,au,av,QN,hi,AC,hk,c1,c2,c3,bC]
 ·intro c k hc
  simp(disch:=omega) only[↓pq,↓pj,ps,pz,↓reduceIte,af,ah,ai,aj,ak,ap,aq,au,av,QN,]
def fo(es:List cO)(node ae:Int):Int:=dJ (λe=>e.node==node&&e.ae==ae) es
theorem avU(t0 t1 t2 t3 t4 t5 t6:T)(es:List cO)(node ae:Int)(h:es.length<=1048576):CF [t0,t1,t2,t3,t4,t5,t6,.l (es.map bG),ii node,ii ae]=some [ii (fo es node ae)]:=by
 rw[aqN];simp(disch:=omega) only[↓pq,↓pj,ps,pz,↓reduceIte,af,ah,ai,aj,ak,ap,aq,au,av,GP,NK]
 refine(D9 es (λi=>[ii 0,ii i]) (λe=>e.node==node&&e.ae==ae) (λj=>some [ii j]) (ku:=some [ii (-1)]) rfl (c_ h) ?_ ?_).trans ?_
 ·intro i hi q
  simp(disch:=omega) only[↓pq,↓pj,ps,pz,↓reduceIte,af,ah,ai,aj,ak,ap,aq,au,av,GP,hi]
  grind
 ·intro q
  simp(disch:=omega) only[↓pq,↓pj,ps,pz,↓reduceIte,af,ah,ai,aj,ak,ap,aq,au,av,GP,]
 ·unfold fo
  have:=Lx (λe:cO=>e.node==node&&e.ae==ae) es
  split
  ·congr 2;congr 1;omega
  ·rfl
theorem avV(t0 t1 t2 t3 t4 t5 t6:T)(es:List cO)(node ae:Int)(h:es.length<=1048576):CV [t0,t1,t2,t3,t4,t5,t6,.l (es.map bG),ii node,ii ae]=some [ii (fo es node ae)]:=by
 rw[asb];simp(disch:=omega) only[↓pq,↓pj,ps,pz,↓reduceIte,af,ah,ai,aj,ak,ap,aq,au,av,G5,Oj]
 refine(D9 es (λi=>[ii 0,ii i]) (λe=>e.node==node&&e.ae==ae) (λj=>some [ii j]) (ku:=some [ii (-1)]) rfl (c_ h) ?_ ?_).trans ?_
 ·intro i hi q
  simp(disch:=omega) only[↓pq,↓pj,ps,pz,↓reduceIte,af,ah,ai,aj,ak,ap,aq,au,av,G5,hi]
  grind
 ·intro q
  simp(disch:=omega) only[↓pq,↓pj,ps,pz,↓reduceIte,af,ah,ai,aj,ak,ap,aq,au,av,G5,]
 ·unfold fo
  have:=Lx (λe:cO=>e.node==node&&e.ae==ae) es
  split
  ·congr 2;congr 1;omega
  ·rfl
def rp(l:List Int):Bool:=du (λx=>gx x 1 6) (λa b=>!decide (a>=b)) l
def qC(r:ay):Bool:=vy (s6 r) r
def DK(p:bd):Bool:=
 gx p.kind 1 3&&gx p.fQ 1 6&&gx p.to 1 6&& !(p.fQ==p.to)&&gx p.ae 0 2&&rp p.heard&&
  (if p.kind=1 then decide (p.list.length=0)else decide (p.heard.length=0))&&dv p.list&&p.list.all (λr=>n8 p.ae r&&(!(p.kind==2)||qC r))
theorem avW(l:List Int)(h:l.length<=1048576):ZM [.l (l.map aE)]=some [bb (rp l)]:=by
 rw[aqP];simp(disch:=omega) only[↓pq,↓pj,ps,pz,↓reduceIte,af,ah,ai,aj,ak,ap,aq,au,av,kr_,NL]
 refine(sH l.length (λi=>[bb false,ii i]) (λi=>gx (gt l i) 1 6&&(!decide ((i:Int)>0)|| !decide (gt l (i-1:Int)>=gt l i))) (fF:=some [bb false]) (gV:=some [bb true]) rfl (c_ h) ?_ ?_).trans (jR _ _ _ |>.trans (by unfold rp du;grind))
 ·intro i hi s1
  simp(disch:=omega) only[↓pq,↓pj,ps,pz,↓reduceIte,af,ah,ai,aj,ak,ap,aq,au,av,kr_,hi,uH]
  grind
 ·intro s1
  simp(disch:=omega) only[↓pq,↓pj,ps,pz,↓reduceIte,af,ah,ai,aj,ak,ap,aq,au,av,kr_,]
theorem PW{l:List ay}{p:ay->Bool}:ke l.length (λi=>p (gt l i))=l.all p:=by
 rw[Bool.eq_iff_iff,bW,List.all_eq_true]
 constructor
 ·intro h x hx
  obtain⟨i,hi,rfl⟩:=List.mem_iff_getElem.1 hx
  have:=h i hi
  rwa[eh hi]at this
 ·intro h i hi
  rw[eh hi]
  exact h _ (List.getElem_mem hi)
theorem avX(s:List ay)(h:s.length<=1048576)(hn:aQ s):CG [.l (s.map aw)]=some [bb (s.all qC)]:=by
 rw[aqX];simp(disch:=omega) only[↓pq,↓pj,ps,pz,↓reduceIte,af,ah,ai,aj,ak,ap,aq,au,av,GR,NO]
 refine(sH s.length (λi=>[bb false,ii i]) (λi=>qC (gt s i)) (fF:=some [bb false]) (gV:=some [bb true]) rfl (c_ h) ?_ ?_).trans (jR _ _ _ |>.trans (by rw[PW];grind))
 ·intro i hi s1
  have h1:=adw (gt s i).ae (gt s i).kind (gt s i).owner (gt s i).key (gt s i).seq (.l ((gt s i).aX.map eJ)) (ii (gt s i).cost) (bb (gt s i).e_)
  have h2:=Oz (gt s i).ae (gt s i).kind (gt s i).owner (gt s i).key (gt s i).seq [] (if(gt s i).kind=3 then 1 else 0) false (gt s i).ae (gt s i).kind (gt s i).owner (gt s i).key (gt s i).seq (gt s i).aX (gt s i).cost (gt s i).e_ (by simp)
  rw[show(T.l (List.map eJ []))=.l [] from rfl]at h2
  simp(disch:=omega) only[↓pq,↓pj,ps,pz,↓reduceIte,af,ah,ai,aj,ak,ap,aq,au,av,GR,hi,h1,h2]
  unfold qC s6
  generalize vy _ (gt s (i:Int))=b
  cases b<;>rfl
 ·intro s1
  simp(disch:=omega) only[↓pq,↓pj,ps,pz,↓reduceIte,af,ah,ai,aj,ak,ap,aq,au,av,GR,]
def z8(p:bd):Bool:=(if p.kind=1 then decide (p.list.length=0)else decide (p.heard.length=0))&&dv p.list&&p.list.all (λr=>n8 p.ae r&&(!(p.kind==2)||qC r))
theorem PX(p:bd):DK p=(gx p.kind 1 3&&gx p.fQ 1 6&&gx p.to 1 6&& !(p.fQ==p.to)&&gx p.ae 0 2&&(rp p.heard&&z8 p)):=by
 unfold DK z8
 simp only[Bool.and_assoc]
theorem avY{p:bd}(h:p.kind=2∨p.kind=3):p.list.all (λr=>n8 p.ae r&&(!(p.kind==2)||qC r))=(p.list.all (n8 p.ae)&&(decide (p.kind=3)||p.list.all qC)):=by
 rcases h with h|h
 ·rw[h]
  induction p.list with
  |nil=>rfl
  |cons a l ih=>simp only[List.all_cons]at ih⊢;rw[ih];cases n8 p.ae a<;>cases qC a<;>cases l.all (n8 p.ae)<;>cases l.all qC<;>rfl
 ·rw[h]
  induction p.list with
  |nil=>rfl
  |cons a l ih=>simp only[List.all_cons]at ih⊢;rw[ih];cases n8 p.ae a<;>cases l.all (n8 p.ae)<;>rfl
theorem avZ(p:bd)(h1:p.heard.length<=1048576)(h2:p.list.length<=1048576)(h3:aQ p.list):ZZ (ej p)=some [bb (DK p)]:=by
 unfold ej
 rw[aqZ,PX]
 cases c1:gx p.kind 1 3 with
 |false=>simp(disch:=omega) only[↓pq,↓pj,ps,pz,↓reduceIte,af,ah,ai,aj,ak,ap,aq,au,av,xK,Ee,uH,c1,cE];rfl
 |true=>
 cases c2:gx p.fQ 1 6 with
 |false=>simp(disch:=omega) only[↓pq,↓pj,ps,pz,↓reduceIte,af,ah,ai,aj,ak,ap,aq,au,av,xK,Ee,uH,c1,c2,cE];rfl
 |true=>
 cases c3:gx p.to 1 6 with
 |false=>simp(disch:=omega) only[↓pq,↓pj,ps,pz,↓reduceIte,af,ah,ai,aj,ak,ap,aq,au,av,xK,Ee,uH,c1,c2,c3,cE];rfl
 |true=>
 by_cases c4:p.fQ=p.to
 ·simp(disch:=omega) only[↓pq,↓pj,ps,pz,↓reduceIte,af,ah,ai,aj,ak,ap,aq,au,av,xK,Ee,uH,c1,c2,c3,c4]
  simp
 have rq:(p.fQ==p.to)=false:=by simpa using c4
 rw[rq]
 cases c5:gx p.ae 0 2 with
 |false=>simp(disch:=omega) only[↓pq,↓pj,ps,pz,↓reduceIte,af,ah,ai,aj,ak,ap,aq,au,av,xK,Ee,uH,c1,c2,c3,c4,c5,cE];rfl
 |true=>
 have k13:=be.1 c1
 have hU:=avW p.heard h1
 have hS:=G8 p.list h2 h3
 have hM:=avX p.list h2 h3
 unfold z8
 by_cases c6:p.kind=1
 ·rw[if_pos c6]
  cases c7:rp p.heard with
  |false=>rw[c7]at hU;simp(disch:=omega) only[↓pq,↓pj,ps,pz,↓reduceIte,af,ah,ai,aj,ak,ap,aq,au,av,xK,Ee,uH,c1,c2,c3,c4,c5,c6,hU,cE];rfl
  |true=>
   rw[c7]at hU
   simp(disch:=omega) only[↓pq,↓pj,ps,pz,↓reduceIte,af,ah,ai,aj,ak,ap,aq,au,av,xK,Ee,uH,c1,c2,c3,c4,c5,c6,hU]
   by_cases c8:p.list=[]
   ·rw[c8];simp[dv,du,ke,gx]
   ·have:¬p.list.length=0:=λh=>c8 (List.eq_nil_of_length_eq_zero h)
    have h0:¬((p.list.length:Int)=0):=by omega
    simp[c8]
 ·rw[if_neg c6]
  simp(disch:=omega) only[↓pq,↓pj,ps,pz,↓reduceIte,af,ah,ai,aj,ak,ap,aq,au,av,xK,Ee,uH,c1,c2,c3,c4,c5,c6]
  refine(sH p.list.length (λi=>[bb false,ii i]) (λi=>n8 p.ae (gt p.list i)) (fF:=some [bb false]) (gV:=some [bb (decide (p.heard.length=0)&&dv p.list&&(decide (p.kind=3)||p.list.all qC))]) rfl (c_ h2) ?_ ?_).trans ?_
  ·intro i hi s1
   simp(disch:=omega) only[↓pq,↓pj,ps,pz,↓reduceIte,af,ah,ai,aj,ak,ap,aq,au,av,xK,hi]
   unfold n8
   grind
  ·intro s1
   by_cases c7:(p.heard.length:Int)=0
   ·have c7':p.heard.length=0:=by omega
    cases c8:dv p.list with
    |false=>rw[c8]at hS;simp(disch:=omega) only[↓pq,↓pj,ps,pz,↓reduceIte,af,ah,ai,aj,ak,ap,aq,au,av,xK,c7,hS,cE];simp
    |true=>
     rw[c8]at hS
     by_cases c9:p.kind=3
     ·simp(disch:=omega) only[↓pq,↓pj,ps,pz,↓reduceIte,af,ah,ai,aj,ak,ap,aq,au,av,xK,c7,hS,c9];simp[c7']
     ·simp(disch:=omega) only[↓pq,↓pj,ps,pz,↓reduceIte,af,ah,ai,aj,ak,ap,aq,au,av,xK,c7,hS,c9,hM];simp[c7',c9]
   ·have c7':¬p.heard.length=0:=by omega
    simp(disch:=omega) only[↓pq,↓pj,ps,pz,↓reduceIte,af,ah,ai,aj,ak,ap,aq,au,av,xK,c7];simp[c7']
  ·rw[PW,jR]
   refine congrArg (λb=>some [bb b]) ?_
   rw[avY (by omega)]
   cases hA:p.list.all (n8 p.ae)with
   |false=>simp
   |true=>
    by_cases hh:p.heard.length=0
    ·have:p.heard=[]:=List.eq_nil_of_length_eq_zero hh
     rw[this]
     simp[show rp []=true from rfl]
    ·simp[hh]
theorem ad_(p:bd)(h1:p.heard.length<=1048576)(h2:p.list.length<=1048576)(h3:aQ p.list):Ml (ej p)=some [bb (DK p)]:=by
 unfold ej
 rw[ash,PX]
 cases c1:gx p.kind 1 3 with
 |false=>simp(disch:=omega) only[↓pq,↓pj,ps,pz,↓reduceIte,af,ah,ai,aj,ak,ap,aq,au,av,pT,qP,I9,vx,c1,cE];rfl
 |true=>
 cases c2:gx p.fQ 1 6 with
 |false=>simp(disch:=omega) only[↓pq,↓pj,ps,pz,↓reduceIte,af,ah,ai,aj,ak,ap,aq,au,av,pT,qP,I9,vx,c1,c2,cE];rfl
 |true=>
 cases c3:gx p.to 1 6 with
 |false=>simp(disch:=omega) only[↓pq,↓pj,ps,pz,↓reduceIte,af,ah,ai,aj,ak,ap,aq,au,av,pT,qP,I9,vx,c1,c2,c3,cE];rfl
 |true=>
 by_cases c4:p.fQ=p.to
 ·simp(disch:=omega) only[↓pq,↓pj,ps,pz,↓reduceIte,af,ah,ai,aj,ak,ap,aq,au,av,pT,qP,I9,vx,c1,c2,c3,c4]
  simp
 have rq:(p.fQ==p.to)=false:=by simpa using c4
 rw[rq]
 cases c5:gx p.ae 0 2 with
 |false=>simp(disch:=omega) only[↓pq,↓pj,ps,pz,↓reduceIte,af,ah,ai,aj,ak,ap,aq,au,av,pT,qP,I9,vx,c1,c2,c3,c4,c5,cE];rfl
 |true=>
 have hS:=k4_ p.list h2 h3
 simp(disch:=omega) only[↓pq,↓pj,ps,pz,↓reduceIte,af,ah,ai,aj,ak,ap,aq,au,av,pT,qP,I9,vx,c1,c2,c3,c4,c5]
 refine(sH p.heard.length (λi=>[bb false,ii i]) (λi=>gx (gt p.heard i) 1 6&&(!decide ((i:Int)>0)|| !decide (gt p.heard (i-1:Int)>=gt p.heard i))) (fF:=some [bb false]) (gV:=some [bb (z8 p)]) rfl (c_ h1) ?_ ?_).trans (jR _ _ _ |>.trans (by unfold rp du;grind))
 ·intro i hi s1
  simp(disch:=omega) only[↓pq,↓pj,ps,pz,↓reduceIte,af,ah,ai,aj,ak,ap,aq,au,av,pT,qP,hi,vx]
  grind
 ·intro s1
  have hL:iter (pT F9 sJ Gb (ii p.kind) (ii p.ae) (.l (p.list.map aw))) rounds [bb false,ii 0]=some [bb (p.list.all (λr=>n8 p.ae r&&(!(p.kind==2)||qC r)))]:=by
   refine(sH p.list.length (λi=>[bb false,ii i]) (λi=>n8 p.ae (gt p.list i)&&(!(p.kind==2)||qC (gt p.list i))) (fF:=some [bb false]) (gV:=some [bb true]) rfl (c_ h2) ?_ ?_).trans ?_
   ·intro i hi q
    have hn:=h3.gt (n:=i) (by omega) hi
    have g1:=adU (gt p.list i).ae (gt p.list i).kind (gt p.list i).owner (gt p.list i).key (gt p.list i).seq (.l ((gt p.list i).aX.map eJ)) (ii (gt p.list i).cost) (bb (gt p.list i).e_)
    have g2:=OA (gt p.list i).ae (gt p.list i).kind (gt p.list i).owner (gt p.list i).key (gt p.list i).seq [] (if(gt p.list i).kind=3 then 1 else 0) false (gt p.list i).ae (gt p.list i).kind (gt p.list i).owner (gt p.list i).key (gt p.list i).seq (gt p.list i).aX (gt p.list i).cost (gt p.list i).e_ (by simp)
    rw[show(T.l (List.map eJ []))=.l [] from rfl]at g2
    have g3:vy ⟨(gt p.list i).ae,(gt p.list i).kind,(gt p.list i).owner,(gt p.list i).key,(gt p.list i).seq,[],if(gt p.list i).kind=3 then 1 else 0,false⟩ ⟨(gt p.list i).ae,(gt p.list i).kind,(gt p.list i).owner,(gt p.list i).key,(gt p.list i).seq,(gt p.list i).aX,(gt p.list i).cost,(gt p.list i).e_⟩=qC (gt p.list i):=rfl
    rw[g3]at g2
    unfold n8
    by_cases d1:(gt p.list i).ae=p.ae
    ·rw[d1]at g1 g2
     by_cases d3:p.kind=2
     ·cases d4:qC (gt p.list i)with
      |false=>rw[d4]at g2;simp(disch:=omega) only[↓pq,↓pj,ps,pz,↓reduceIte,af,ah,ai,aj,ak,ap,aq,au,av,pT,qP,hi,d1,d3,AC,g1,g2];simp[d1,d3]
      |true=>rw[d4]at g2;simp(disch:=omega) only[↓pq,↓pj,ps,pz,↓reduceIte,af,ah,ai,aj,ak,ap,aq,au,av,pT,qP,hi,d1,d3,AC,g1,g2];simp[d1,d3]
     ·simp(disch:=omega) only[↓pq,↓pj,ps,pz,↓reduceIte,af,ah,ai,aj,ak,ap,aq,au,av,pT,qP,hi,d1,d3];simp[d1,d3]
    ·by_cases d2:(gt p.list i).ae=9
     ·rw[d2]at g1 g2
      by_cases d3:p.kind=2
      ·cases d4:qC (gt p.list i)with
       |false=>rw[d4]at g2;simp(disch:=omega) only[↓pq,↓pj,ps,pz,↓reduceIte,af,ah,ai,aj,ak,ap,aq,au,av,pT,qP,hi,d1,d2,d3,AC,g1,g2];simp[d2,d3]
       |true=>rw[d4]at g2;simp(disch:=omega) only[↓pq,↓pj,ps,pz,↓reduceIte,af,ah,ai,aj,ak,ap,aq,au,av,pT,qP,hi,d1,d2,d3,AC,g1,g2];simp[d2,d3]
      ·simp(disch:=omega) only[↓pq,↓pj,ps,pz,↓reduceIte,af,ah,ai,aj,ak,ap,aq,au,av,pT,qP,hi,d1,d2,d3];simp[d2,d3]
     ·simp(disch:=omega) only[↓pq,↓pj,ps,pz,↓reduceIte,af,ah,ai,aj,ak,ap,aq,au,av,pT,qP,hi,d1,d2];simp[d1,d2]
   ·intro q
    simp(disch:=omega) only[↓pq,↓pj,ps,pz,↓reduceIte,af,ah,ai,aj,ak,ap,aq,au,av,pT,qP,]
   ·rw[PW (p:=λr=>n8 p.ae r&&(!(p.kind==2)||qC r)),jR]
    refine congrArg (λb=>some [bb b]) ?_
    cases p.list.all _<;>rfl
  have c6:∀b:Bool,(if b=true then some [bb false]else some [bb (p.list.all (λr=>n8 p.ae r&&(!(p.kind==2)||qC r)))])=some [bb (!b&&p.list.all (λr=>n8 p.ae r&&(!(p.kind==2)||qC r)))]:=λb=>by cases b<;>simp
  generalize hK:iter (pT F9 sJ Gb (ii p.kind) (ii p.ae) (.l (p.list.map aw))) rounds [bb false,ii 0]=K at hL⊢
  unfold z8
  by_cases k1:p.kind=1
  ·by_cases k2:(p.list.length:Int)>0
   ·simp(disch:=omega) only[↓pq,↓pj,ps,pz,↓reduceIte,af,ah,ai,aj,ak,ap,aq,au,av,pT,qP,k1,k2]
    have:¬p.list.length=0:=by omega
    simp[this]
   ·cases k3:dv p.list with
    |false=>rw[k3]at hS;simp(disch:=omega) only[↓pq,↓pj,ps,pz,↓reduceIte,af,ah,ai,aj,ak,ap,aq,au,av,pT,qP,k1,k2,hS];simp
    |true=>
     rw[k3]at hS
     simp(disch:=omega) only[↓pq,↓pj,ps,pz,↓reduceIte,af,ah,ai,aj,ak,ap,aq,au,av,pT,qP,k1,k2,hS]
     have:p.list.length=0:=by omega
     rw[<-k1]
     rw[hK,hL]
     simp[this]
  ·by_cases k2:(p.heard.length:Int)>0
   ·simp(disch:=omega) only[↓pq,↓pj,ps,pz,↓reduceIte,af,ah,ai,aj,ak,ap,aq,au,av,pT,qP,k1,k2]
    have:¬p.heard.length=0:=by omega
    simp[this]
   ·cases k3:dv p.list with
    |false=>rw[k3]at hS;simp(disch:=omega) only[↓pq,↓pj,ps,pz,↓reduceIte,af,ah,ai,aj,ak,ap,aq,au,av,pT,qP,k1,k2,hS];simp
    |true=>
     rw[k3]at hS
     simp(disch:=omega) only[↓pq,↓pj,ps,pz,↓reduceIte,af,ah,ai,aj,ak,ap,aq,au,av,pT,qP,k1,k2,hS]
     have:p.heard.length=0:=by omega
     rw[hK,hL]
     simp[this]
def nu(a b:List ay):List ay:=b.foldl (λc r=>if w7 c r=true then cM c r else c) (eQ same [] a)
theorem Ig:∀{own c:List ay},(∀r∈own,∀x∈c,dS x r=true->x.seq<r.seq)->own.Pairwise (λa b=>dS a b=false)->
  own.foldl (λc r=>if w7 c r=true then cM c r else c) c=eQ same c own
 | [],c,_,_=>rfl
 |r::own,c,h,hp=>by
  have h1:w7 c r=true:=by
   unfold w7
   by_cases h0:bA c r<0
   ·simp[h0]
   ·have h2:=H5 (s:=c) (r:=r) (by omega)
    have:=h r (.head _) _ h2.1 h2.2
    simp[this]
  rw[List.foldl_cons,if_pos h1]
  rw[List.pairwise_cons]at hp
  exact Ig (own:=own) (c:=cM c r) (λr' jG x hx hk=>by
   rcases wN hx with rfl|hx
   ·rw[hp.1 r' jG]at hk;cases hk
   ·exact h r' (.tail _ jG) x hx hk) hp.2
theorem PY{b c:List ay}{k:Nat}(h:Fit k c)(hn:aQ b):Fit (k+b.length) (b.foldl (λc r=>if w7 c r=true then cM c r else c) c):=by
 induction b generalizing c k with
 |nil=>exact h
 |cons r b ih=>
  rw[List.foldl_cons]
  have h1:Fit (k+1) (if w7 c r=true then cM c r else c):=by
   split
   ·exact h.put (hn r (.head _))
   ·exact h.mono (by omega)
  exact(ih h1 λx hx=>hn x (.tail _ hx)).mono (by simp;omega)
theorem PZ(a b:List ay)(ha:a.length<=1000)(hb:b.length<=1000)(na:aQ a)(nb:aQ b):CS [.l (a.map aw),.l (b.map aw)]=some [.l ((nu a b).map aw)]:=by
 rw[arJ];simp(disch:=omega) only[↓pq,↓pj,ps,pz,↓reduceIte,af,ah,ai,aj,ak,ap,aq,au,av,I6,I7,Ob]
 have kq:∀{k:Nat} {c:List ay} (r:ay),Fit k c->k<=3000->r.aX.length<=1048576->sM [.l (c.map aw),ii r.ae,ii r.kind,ii r.owner,ii r.key,ii r.seq,.l (r.aX.map eJ),ii r.cost,bb r.e_]=some [.l ((cM c r).map aw)]:=
  λr hc hk hr=>Da _ r.ae r.kind r.owner r.key r.seq r.aX r.cost r.e_ (by have:=hc.len;omega) hc.aX hc.so hr
 refine(gO a (λi c=>[.l (c.map aw),ii i]) (λc r=>cM c (same r)) (λc=>some [T.l ((b.foldl (λc r=>if w7 c r=true then cM c r else c) c).map aw)]) [] (λi c=>Fit i c) rfl (c_ (by omega)) Fit.nil ?_ ?_).trans ?_
 ·intro i c hi hc
  have hr:=na.gt (n:=i) (by omega) hi
  refine⟨hc.put hr,λk=>?_⟩
  have hp:=kq (gt a i) hc (by omega) hr
  simp(disch:=omega) only[↓pq,↓pj,ps,pz,↓reduceIte,af,ah,ai,aj,ak,ap,aq,au,av,I6,I7,hi,hp]
  rfl
 ·intro c q hc
  simp(disch:=omega) only[↓pq,↓pj,ps,pz,↓reduceIte,af,ah,ai,aj,ak,ap,aq,au,av,I6,I7,]
  refine gO b (λi c=>[.l (c.map aw),ii i]) (λc r=>if w7 c r=true then cM c r else c) (λc=>some [T.l (c.map aw)]) c (λi c=>Fit (a.length+i) c) rfl (c_ (by omega)) hc ?_ ?_
  ·intro i d hi hd
   have hr:=nb.gt (n:=i) (by omega) hi
   have hl:=hd.len
   refine⟨by
    split
    ·exact hd.put hr
    ·exact hd.mono (by omega),λk=>?_⟩
   have hp:=kq (gt b i) hd (by omega) hr
   have hk:=ad8 d (gt b i) (.l ((gt b i).aX.map eJ)) (ii (gt b i).cost) (bb (gt b i).e_) (by omega)
   have bC:=HX d (gt b i)
   unfold w7
   by_cases c1:bA d (gt b i)<0
   ·simp(disch:=omega) only[↓pq,↓pj,ps,pz,↓reduceIte,af,ah,ai,aj,ak,ap,aq,au,av,I6,I7,hi,hk,c1,hp]
    try simp
   ·have c2:0<=bA d (gt b i):=by omega
    by_cases c3:(gt d (bA d (gt b i))).seq<(gt b i).seq
    ·simp(disch:=omega) only[↓pq,↓pj,ps,pz,↓reduceIte,af,ah,ai,aj,ak,ap,aq,au,av,I6,I7,hi,hk,c1,c2,c3,bC,hp]
     try simp
    ·simp(disch:=omega) only[↓pq,↓pj,ps,pz,↓reduceIte,af,ah,ai,aj,ak,ap,aq,au,av,I6,I7,hi,hk,c1,c2,c3,bC,hp]
     try simp
  ·intro d q2 hd
   simp(disch:=omega) only[↓pq,↓pj,ps,pz,↓reduceIte,af,ah,ai,aj,ak,ap,aq,au,av,I6,I7,]
 ·rfl
def x_(id:Int)(e:cO)(what:List ay):List bd:=if e.both=true then(if what.length=0 then []else [⟨3,id,e.node,e.ae,[],what⟩])else []
def AG(id:Int)(es:List cO)(but:Int)(all gC:List ay):List bd:=
 (List.range es.length).foldl (λc (i:Nat)=>c++x_ id (gt es (i:Int)) (scope (if(i:Int)=but then gC else all) (gt es (i:Int)).ae)) []
theorem Ih(id:Int)(e:cO)(what:List ay):(x_ id e what).length<=1:=by unfold x_;split<;>(try split)<;>simp
theorem w8(k id a b:Int)(w:List ay):Prim.ev (.lit 6 []) [ii k,ii id,ii a,ii b,.l [],.l (w.map aw)]=some (.l [ej ⟨k,id,a,b,[],w⟩]):=by simp[Prim.ev,qE,nT,ej]
theorem uV{c:List bd}(x:bd)(h:c.length<=4294967200):Prim.ev (.app false 6) [.l (c.map ej),.l [ej x]]=some (.l ((c++[x]).map ej)):=Lu (l:=c) (m:=[x]) (by simp;omega)
theorem av0(x:Self)(es:List cO)(but:Int)(all gC:List ay)(he:es.length<=1000)(h1:all.length<=1048576)(h2:gC.length<=1048576)(n1:aQ all)(n2:aQ gC):
  iter (pR Ed Gn (ii but) (.l (all.map aw)) (.l (gC.map aw)) (ii es.length)) rounds [.l [],ii 0,ii x.id,ii x.aV,ii x.net.n,.l (x.net.aB.map cT),.l (x.net.aG.map dj),.l (x.heard.map aE),.l (x.store.map aw),.l (es.map bG),.l (es.map bG)]=
   some [ii x.id,ii x.aV,ii x.net.n,.l (x.net.aB.map cT),.l (x.net.aG.map dj),.l (x.heard.map aE),.l (x.store.map aw),.l (es.map bG),.l ((AG x.id es but all gC).map ej)]:=by
 refine o6 es.length (λi c=>[.l (c.map ej),ii i,ii x.id,ii x.aV,ii x.net.n,.l (x.net.aB.map cT),.l (x.net.aG.map dj),.l (x.heard.map aE),.l (x.store.map aw),.l (es.map bG),.l (es.map bG)])
  (λc i=>c++x_ x.id (gt es (i:Int)) (scope (if(i:Int)=but then gC else all) (gt es (i:Int)).ae)) (λc=>some [ii x.id,ii x.aV,ii x.net.n,.l (x.net.aB.map cT),.l (x.net.aG.map dj),.l (x.heard.map aE),.l (x.store.map aw),.l (es.map bG),T.l (c.map ej)]) []
  (λi c=>c.length<=i) rfl (c_ (by omega)) (by simp) ?_ ?_
 ·intro i c hi hc
  refine⟨by have:=Ih x.id (gt es (i:Int)) (scope (if(i:Int)=but then gC else all) (gt es (i:Int)).ae);rw[List.length_append];omega,λq=>?_⟩
  have e1:=C8 all (gt es (i:Int)).ae h1 n1
  have e2:=C8 gC (gt es (i:Int)).ae h2 n2
  unfold x_
  cases hb:(gt es (i:Int)).both with
  |false=>
   by_cases c1:(i:Int)=but
   ·subst c1
    simp(disch:=omega) only[↓pq,↓pj,ps,pz,↓reduceIte,af,ah,ai,aj,ak,ap,aq,au,av,pR,pS,hi,e1,e2,hb,cE]
    simp
   ·simp(disch:=omega) only[↓pq,↓pj,ps,pz,↓reduceIte,af,ah,ai,aj,ak,ap,aq,au,av,pR,pS,hi,e1,e2,c1,hb,cE]
    simp
  |true=>
   by_cases c1:(i:Int)=but
   ·subst c1
    rw[if_pos rfl]
    by_cases c2:((scope gC (gt es (i:Int)).ae).length:Int)>0
    ·have c3:¬(scope gC (gt es (i:Int)).ae).length=0:=by omega
     have p1:=w8 3 x.id (gt es (i:Int)).node (gt es (i:Int)).ae (scope gC (gt es (i:Int)).ae)
     have p2:=uV (c:=c) ⟨3,x.id,(gt es (i:Int)).node,(gt es (i:Int)).ae,[],scope gC (gt es (i:Int)).ae⟩ (by omega)
     simp(disch:=omega) only[↓pq,↓pj,ps,pz,↓reduceIte,af,ah,ai,aj,ak,ap,aq,au,av,pR,pS,hi,e1,e2,hb,c2,c3,I8,Eh,p1,p2]
    ·have c3:(scope gC (gt es (i:Int)).ae).length=0:=by omega
     simp(disch:=omega) only[↓pq,↓pj,ps,pz,↓reduceIte,af,ah,ai,aj,ak,ap,aq,au,av,pR,pS,hi,e1,e2,hb,c2,c3]
     simp
   ·rw[if_neg c1]
    by_cases c2:((scope all (gt es (i:Int)).ae).length:Int)>0
    ·have c3:¬(scope all (gt es (i:Int)).ae).length=0:=by omega
     have p1:=w8 3 x.id (gt es (i:Int)).node (gt es (i:Int)).ae (scope all (gt es (i:Int)).ae)
     have p2:=uV (c:=c) ⟨3,x.id,(gt es (i:Int)).node,(gt es (i:Int)).ae,[],scope all (gt es (i:Int)).ae⟩ (by omega)
     simp(disch:=omega) only[↓pq,↓pj,ps,pz,↓reduceIte,af,ah,ai,aj,ak,ap,aq,au,av,pR,pS,hi,e1,e2,c1,hb,c2,c3,I8,Eh,p1,p2]
    ·have c3:(scope all (gt es (i:Int)).ae).length=0:=by omega
     simp(disch:=omega) only[↓pq,↓pj,ps,pz,↓reduceIte,af,ah,ai,aj,ak,ap,aq,au,av,pR,pS,hi,e1,e2,c1,hb,c2,c3]
     simp
 ·intro c q hc
  simp(disch:=omega) only[↓pq,↓pj,ps,pz,↓reduceIte,af,ah,ai,aj,ak,ap,aq,au,av,pR,pS,]
theorem av1(x:Self)(es:List cO)(all gC:List ay)(he:es.length<=1000)(h1:all.length<=1048576)(h2:gC.length<=1048576)(n1:aQ all)(n2:aQ gC):
  iter (pS Ed Gn (.l (all.map aw)) (.l (gC.map aw)) (ii es.length)) rounds [.l [],ii 0,ii x.id,ii x.aV,ii x.net.n,.l (x.net.aB.map cT),.l (x.net.aG.map dj),.l (x.heard.map aE),.l (x.store.map aw),.l (es.map bG),.l (es.map bG)]=
   some [ii x.id,ii x.aV,ii x.net.n,.l (x.net.aB.map cT),.l (x.net.aG.map dj),.l (x.heard.map aE),.l (x.store.map aw),.l (es.map bG),.l ((AG x.id es (-1) all gC).map ej)]:=by
 refine o6 es.length (λi c=>[.l (c.map ej),ii i,ii x.id,ii x.aV,ii x.net.n,.l (x.net.aB.map cT),.l (x.net.aG.map dj),.l (x.heard.map aE),.l (x.store.map aw),.l (es.map bG),.l (es.map bG)])
  (λc i=>c++x_ x.id (gt es (i:Int)) (scope (if(i:Int)=-1 then gC else all) (gt es (i:Int)).ae)) (λc=>some [ii x.id,ii x.aV,ii x.net.n,.l (x.net.aB.map cT),.l (x.net.aG.map dj),.l (x.heard.map aE),.l (x.store.map aw),.l (es.map bG),T.l (c.map ej)]) []
  (λi c=>c.length<=i) rfl (c_ (by omega)) (by simp) ?_ ?_
 ·intro i c hi hc
  refine⟨by have:=Ih x.id (gt es (i:Int)) (scope (if(i:Int)=-1 then gC else all) (gt es (i:Int)).ae);rw[List.length_append];omega,λq=>?_⟩
  have e1:=C8 all (gt es (i:Int)).ae h1 n1
  have c1:¬((i:Int)=-1):=by omega
  unfold x_
  rw[if_neg c1]
  cases hb:(gt es (i:Int)).both with
  |false=>
   simp(disch:=omega) only[↓pq,↓pj,ps,pz,↓reduceIte,af,ah,ai,aj,ak,ap,aq,au,av,pR,pS,hi,e1,c1,hb,cE]
   simp
  |true=>
   by_cases c2:((scope all (gt es (i:Int)).ae).length:Int)>0
   ·have c3:¬(scope all (gt es (i:Int)).ae).length=0:=by omega
    have p1:=w8 3 x.id (gt es (i:Int)).node (gt es (i:Int)).ae (scope all (gt es (i:Int)).ae)
    have p2:=uV (c:=c) ⟨3,x.id,(gt es (i:Int)).node,(gt es (i:Int)).ae,[],scope all (gt es (i:Int)).ae⟩ (by omega)
    simp(disch:=omega) only[↓pq,↓pj,ps,pz,↓reduceIte,af,ah,ai,aj,ak,ap,aq,au,av,pR,pS,hi,e1,c1,hb,c2,c3,I8,Eh,p1,p2]
   ·have c3:(scope all (gt es (i:Int)).ae).length=0:=by omega
    simp(disch:=omega) only[↓pq,↓pj,ps,pz,↓reduceIte,af,ah,ai,aj,ak,ap,aq,au,av,pR,pS,hi,e1,c1,hb,c2,c3]
    simp
 ·intro c q hc
  simp(disch:=omega) only[↓pq,↓pj,ps,pz,↓reduceIte,af,ah,ai,aj,ak,ap,aq,au,av,pR,pS,]
def qD(es:List cO)(k:Int)(b:Bool):List cO:=es.set k.toNat ⟨(gt es k).node,(gt es k).ae,3,b⟩
theorem P0(es:List cO)(k:Int)(b:Bool):(qD es k b).length=es.length:=by unfold qD;simp
theorem ad'{es:List cO}{k:Int}{b:Bool}(h:0<=k)(h':k<es.length):∃Q4:List cO,Q4.length=es.length∧Prim.ev (.put true 4 2 1) [.l (es.map bG),ii k,ii 3]=some (.l (Q4.map bG))∧
  Prim.ev (.put true 4 3 1) [.l (Q4.map bG),ii k,bb b]=some (.l ((qD es k b).map bG)):=by
 refine⟨es.set k.toNat {gt es k with left:=3},by simp,ad3 h h',?_⟩
 rw[ad4 h (by simpa using h')]
 congr 3
 have hk:k.toNat<es.length:=by omega
 have e1:gt (es.set k.toNat {gt es k with left:=3}) k={gt es k with left:=3}:=by
  obtain⟨m,rfl⟩:∃m:Nat,k=m:=⟨k.toNat,by omega⟩
  rw[eh (by simpa using hk)]
  simp
 rw[e1,List.set_set]
 rfl
def w9(x:Self)(e:cO)(list:List ay):List bd:=
 (if(nS (scope x.store e.ae) list).length=0 then []else [⟨3,x.id,e.node,e.ae,[],nS (scope x.store e.ae) list⟩])++
  (if(nS list (scope x.store e.ae)).length=0 then []else [⟨2,x.id,e.node,e.ae,[],xY x.store e.ae⟩])
def Ii(n:Node)(p:bd):Node×List bd:=
 let es:=qD n.cq (fo n.cq p.fQ p.ae) (p.heard.contains n.self.id)
 let y:=jg {n.self with heard:=iK es}
 (⟨y.1,es⟩,AG y.1.id es (-1) (nu [] y.2) (nu [] y.2))
def Ij(n:Node)(p:bd):Node×List bd:=
 let y:=jg {n.self with store:=(uR n.self p.list).1}
 (⟨y.1,n.cq⟩,AG y.1.id n.cq (fo n.cq p.fQ p.ae) (nu (uR n.self p.list).2 y.2) (nu [] y.2))
def s8(n:Node)(p:bd):Node×List bd:=
 if j5 n=true∧DK p=true∧p.to=n.self.id∧¬fo n.cq p.fQ p.ae<0 then
  if p.kind=1 then Ii n p
  else if(gt n.cq (fo n.cq p.fQ p.ae)).both=true then
   if p.kind=2 then(n,w9 n.self (gt n.cq (fo n.cq p.fQ p.ae)) p.list)else Ij n p
  else(n,[])
 else(n,[])
theorem Ik{x:Self}(hn:aQ x.store)(hh:x.heard.length<=1048576):Fit 175 (jg x).2:=by
 unfold jg
 by_cases hk:jf x=true
 ·rw[if_pos hk]
  obtain⟨hN,hid,iS,jJ,uo,cn⟩:=mJ hk
  obtain⟨n1,hl,ht,hA,hT⟩:=rM hN
  unfold vD
  split
  ·exact Pw (x:=x) (H0 (x:=x) (qS x.store x.id (fO x)) ht hh) (Jm cn hn).len
  ·exact Fit.nil.mono (by omega)
 ·rw[if_neg hk]
  exact Fit.nil.mono (by omega)
theorem P1:∀(l:List ay) (p:List ay×List ay),aQ l->aQ p.1->aQ p.2->aQ (l.foldl lj p).1∧aQ (l.foldl lj p).2∧(l.foldl lj p).2.length<=p.2.length+l.length
 | [],p,_,h1,h2=>⟨h1,h2,by simp⟩
 |r::l,p,h,h1,h2=>by
  rw[List.foldl_cons]
  have hr:=h r (.head _)
  have g1:aQ (lj p r).1:=by
   unfold lj;split
   ·exact OH h1 hr
   ·exact h1
  have g2:aQ (lj p r).2:=by
   unfold lj;split
   ·intro x hx
    rcases List.mem_append.1 hx with hx|hx
    ·exact h2 x hx
    ·rw[List.mem_singleton.1 hx];exact hr
   ·exact h2
  have g3:(lj p r).2.length<=p.2.length+1:=by unfold lj;split<;>simp
  obtain⟨f1,f2,f3⟩:=P1 l (lj p r) (λx hx=>h x (.tail _ hx)) g1 g2
  exact⟨f1,f2,by simp only[List.length_cons];omega⟩
theorem av2(n:Node)(p:bd)(h1:n.self.net.aB.length<=1048576)(h2:n.self.net.aG.length<=1048576)(h3:n.self.heard.length<=1048576)(h4:n.self.store.length<=1048576)(h5:aQ n.self.store)(h6:n.cq.length<=1000)
  (q1:p.heard.length<=1000)(q2:p.list.length<=1000)(q3:aQ p.list):
  jZ_ (jt n++ej p)=some (jt (s8 n p).1++[.l ((s8 n p).2.map ej)]):=by
 obtain⟨x,es⟩:=n
 simp only at h1 h2 h3 h4 h5 h6
 simp only[jt,ej,List.cons_append,List.nil_append]
 have j3:=ady x es h1 h2 h3 h4 h5 (by omega)
 have cV:=OG x.id x.aV x.net.n x.net.aB x.net.aG x.heard x.store es h1 h2 h3 h4 h5 (by omega)
 rw[show(⟨⟨x.id,x.aV,⟨x.net.n,x.net.aB,x.net.aG⟩,x.heard,x.store⟩,es⟩:Node)=⟨x,es⟩ from rfl]at cV
 have bR:=avU (ii x.id) (ii x.aV) (ii x.net.n) (.l (x.net.aB.map cT)) (.l (x.net.aG.map dj)) (.l (x.heard.map aE)) (.l (x.store.map aw)) es p.fQ p.ae (by omega)
 have jN:=avZ p (by omega) (by omega) q3
 simp only[ej]at jN
 have bC:fo es p.fQ p.ae<es.length:=o5 _ _
 rw[arY]
 unfold s8
 simp only
 by_cases c1:j5 ⟨x,es⟩=true
 ·by_cases c2:DK p=true
  ·by_cases c3:p.to=x.id
   ·by_cases c4:fo es p.fQ p.ae<0
    ·rw[if_neg (λh=>h.2.2.2 c4)]
     rw[c1]at cV;rw[c2]at jN
     simp(disch:=omega) only[↓pq,↓pj,ps,pz,↓reduceIte,af,ah,ai,aj,ak,ap,aq,au,av,pR,pS,zj,j3,bR,cV,jN,eq_true c3,c4]
     rfl
    ·rw[if_pos ⟨c1,c2,c3,c4⟩]
     rw[c1]at cV;rw[c2]at jN
     have rq:0<=fo es p.fQ p.ae:=by omega
     by_cases c5:p.kind=1
     ·rw[if_pos c5]
      obtain⟨Q4,l1,p1,p2⟩:=ad' (es:=es) (k:=fo es p.fQ p.ae) (b:=p.heard.contains x.id) rq bC
      have hc:=wO p.heard x.id (by omega)
      unfold Ii
      simp only
      have qe:=P0 es (fo es p.fQ p.ae) (p.heard.contains x.id)
      generalize qD es (fo es p.fQ p.ae) (p.heard.contains x.id)=pL at p2 qe
      have hb:=OD pL (by omega)
      have sy:=OC pL
      have hR:=Px {x with heard:=iK pL} h1 h2 (by show(iK pL).length<=_;omega) h4 h5
      obtain⟨y1,y2,y3,y4,y5,y6⟩:=H3 (x:={x with heard:=iK pL}) h4 h5 (by show(iK pL).length<=_;omega)
      have hF:=Ik (x:={x with heard:=iK pL}) h5 (by show(iK pL).length<=_;omega)
      generalize jg {x with heard:=iK pL}=y at hR y1 y2 y3 y4 y5 y6 hF
      simp only[ie,List.cons_append,List.nil_append]at hR
      have hw:=PZ [] y.2 (by simp) (by have:=hF.len;omega) (by simp[aQ]) hF.aX
      have hwf:=PY (b:=y.2) Fit.nil hF.aX
      have ko:=av1 y.1 pL (nu [] y.2) (nu [] y.2) (by omega) (by have:=hwf.len;have:=hF.len;show(nu [] y.2).length<=_;unfold nu;simp only[eQ,List.foldl_nil]at *;omega)
       (by have:=hwf.len;have:=hF.len;show(nu [] y.2).length<=_;unfold nu;simp only[eQ,List.foldl_nil]at *;omega) hwf.aX hwf.aX
      have e0:T.l (List.map aw [])=.l []:=rfl
      rw[e0]at hw
      have DL:Prim.ev .len [.l (pL.map bG)]=some (ii pL.length):=B3
      have lz:=F0 (enc:=bG) rq bC
      simp(disch:=omega) only[↓pq,↓pj,ps,pz,↓reduceIte,af,ah,ai,aj,ak,ap,aq,au,av,pR,pS,zj,j3,bR,cV,jN,eq_true c3,c4,eq_true c5,hc,p1,p2,hb,hR,hw,DL,lz]
      exact ko
     ·rw[if_neg c5]
      cases c6:(gt es (fo es p.fQ p.ae)).both with
      |false=>
       rw[if_neg (by simp)]
       simp(disch:=omega) only[↓pq,↓pj,ps,pz,↓reduceIte,af,ah,ai,aj,ak,ap,aq,au,av,pR,pS,zj,j3,bR,cV,jN,eq_true c3,c4,c5,rq,bC,c6,cE]
       rfl
      |true=>
       rw[if_pos rfl]
       have lz:=F0 (enc:=bG) rq bC
       by_cases c7:p.kind=2
       ·rw[if_pos c7]
        generalize hk:fo es p.fQ p.ae=k at*
        have hs:=C8 x.store (gt es k).ae h4 h5
        have oX:(scope x.store (gt es k).ae).length<=1048576:=Nat.le_trans (acd _ _) h4
        have sX:aQ (scope x.store (gt es k).ae):=λr hr=>h5 r (List.mem_filter.1 hr).1
        have xk:=ad9 (scope x.store (gt es k).ae) p.list oX sX (by omega)
        have vH:=ad9 p.list (scope x.store (gt es k).ae) (by omega) q3 oX
        have hh:=adx x.store (gt es k).ae h4 h5
        unfold w9
        have p1:=w8 3 x.id (gt es k).node (gt es k).ae (nS (scope x.store (gt es k).ae) p.list)
        have p2:=w8 2 x.id (gt es k).node (gt es k).ae (xY x.store (gt es k).ae)
        have a1:∀A:bd,Prim.ev (.app false 6) [.l [],.l [ej A]]=some (.l [ej A]):=λA=>uV (c:=[]) A (by simp)
        have a2:∀A B:bd,Prim.ev (.app false 6) [.l [ej A],.l [ej B]]=some (.l [ej A,ej B]):=λA B=>uV (c:=[A]) B (by simp)
        by_cases d1:((nS (scope x.store (gt es k).ae) p.list).length:Int)>0
        ·have DM:¬(nS (scope x.store (gt es k).ae) p.list).length=0:=by omega
         by_cases d2:((nS p.list (scope x.store (gt es k).ae)).length:Int)>0
         ·have w_:¬(nS p.list (scope x.store (gt es k).ae)).length=0:=by omega
          simp(disch:=omega) only[↓pq,↓pj,ps,pz,↓reduceIte,af,ah,ai,aj,ak,ap,aq,au,av,pR,pS,zj,j3,bR,cV,jN,eq_true c3,c4,c5,rq,bC,c6,eq_true c7,lz,hs,xk,vH,hh,d1,d2,DM,w_,I8,Eh,p1,p2,a1,a2]
          rfl
         ·have w_:(nS p.list (scope x.store (gt es k).ae)).length=0:=by omega
          simp(disch:=omega) only[↓pq,↓pj,ps,pz,↓reduceIte,af,ah,ai,aj,ak,ap,aq,au,av,pR,pS,zj,j3,bR,cV,jN,eq_true c3,c4,c5,rq,bC,c6,eq_true c7,lz,hs,xk,vH,hh,d1,d2,DM,w_,I8,Eh,p1,p2,a1,a2]
          rfl
        ·have DM:(nS (scope x.store (gt es k).ae) p.list).length=0:=by omega
         by_cases d2:((nS p.list (scope x.store (gt es k).ae)).length:Int)>0
         ·have w_:¬(nS p.list (scope x.store (gt es k).ae)).length=0:=by omega
          simp(disch:=omega) only[↓pq,↓pj,ps,pz,↓reduceIte,af,ah,ai,aj,ak,ap,aq,au,av,pR,pS,zj,j3,bR,cV,jN,eq_true c3,c4,c5,rq,bC,c6,eq_true c7,lz,hs,xk,vH,hh,d1,d2,DM,w_,I8,Eh,p1,p2,a1,a2]
          rfl
         ·have w_:(nS p.list (scope x.store (gt es k).ae)).length=0:=by omega
          simp(disch:=omega) only[↓pq,↓pj,ps,pz,↓reduceIte,af,ah,ai,aj,ak,ap,aq,au,av,pR,pS,zj,j3,bR,cV,jN,eq_true c3,c4,c5,rq,bC,c6,eq_true c7,lz,hs,xk,vH,hh,d1,d2,DM,w_,I8,Eh,p1,p2,a1,a2]
          rfl
       ·rw[if_neg c7]
        have hL:=avo x p.list h1 h2 h3 h4 h5 (by omega) q3
        unfold Ij
        simp only
        have cn:=H7 (vE c1).1
        have qg:=(vE c1).1
        have Q5:uR x p.list=Eu x.store p.list:=by unfold uR;rw[if_pos qg]
        have vF:=P1 p.list (x.store,[]) q3 h5 (by simp[aQ])
        have ny:=avl (l:=p.list) cn
        have D6:=vI ny
        rw[show p.list.foldl lj (x.store,[])=Eu x.store p.list from rfl,<-Q5]at vF
        rw[<-Q5]at D6
        generalize uR x p.list=z at hL vF D6
        obtain⟨z1,z2,z3⟩:=vF
        have hz3:z.2.length<=1000:=by simp only[List.length_nil]at z3;omega
        have hR:=Px {x with store:=z.1} h1 h2 h3 (by show z.1.length<=_;omega) z1
        obtain⟨y1,y2,y3,y4,y5,y6⟩:=H3 (x:={x with store:=z.1}) (by show z.1.length<=_;omega) z1 h3
        have hF:=Ik (x:={x with store:=z.1}) z1 h3
        generalize jg {x with store:=z.1}=y at hR y1 y2 y3 y4 y5 y6 hF
        simp only[ie,List.cons_append,List.nil_append]at hR
        have hFl:=hF.len
        have hw1:=PZ z.2 y.2 hz3 (by omega) z2 hF.aX
        have xj:=PZ [] y.2 (by simp) (by omega) (by simp[aQ]) hF.aX
        have f1:=PY (b:=y.2) (Fit.lE (f:=same) (l:=z.2) (λr hr=>z2 r hr) Fit.nil) hF.aX
        have f2:=PY (b:=y.2) Fit.nil hF.aX
        have l1:(nu z.2 y.2).length<=1048576:=by have:=f1.len;unfold nu;omega
        have l2:(nu [] y.2).length<=1048576:=by have:=f2.len;unfold nu;simp only[eQ,List.foldl_nil]at *;omega
        have ko:=av0 y.1 es (fo es p.fQ p.ae) (nu z.2 y.2) (nu [] y.2) h6 l1 l2 f1.aX f2.aX
        have e0:T.l (List.map aw [])=.l []:=rfl
        rw[e0]at xj
        have DL:Prim.ev .len [.l (es.map bG)]=some (ii es.length):=B3
        simp(disch:=omega) only[↓pq,↓pj,ps,pz,↓reduceIte,af,ah,ai,aj,ak,ap,aq,au,av,pR,pS,zj,j3,bR,cV,jN,eq_true c3,c4,c5,rq,bC,c6,c7,lz,hL,hR,hw1,xj,DL]
        exact ko
   ·rw[if_neg (λh=>c3 h.2.2.1)]
    rw[c1]at cV;rw[c2]at jN
    simp(disch:=omega) only[↓pq,↓pj,ps,pz,↓reduceIte,af,ah,ai,aj,ak,ap,aq,au,av,pR,pS,zj,j3,bR,cV,jN,c3]
    rfl
  ·rw[if_neg (λh=>c2 h.2.1)]
   rw[c1]at cV;rw[Bool.eq_false_iff.2 c2]at jN
   simp(disch:=omega) only[↓pq,↓pj,ps,pz,↓reduceIte,af,ah,ai,aj,ak,ap,aq,au,av,pR,pS,zj,j3,bR,cV,jN,cE]
   rfl
 ·rw[if_neg (λh=>c1 h.1)]
  rw[Bool.eq_false_iff.2 c1]at cV
  simp(disch:=omega) only[↓pq,↓pj,ps,pz,↓reduceIte,af,ah,ai,aj,ak,ap,aq,au,av,pR,pS,zj,j3,bR,cV,cE]
  rfl
theorem aea{k:Nat}{c:List ay}(r:ay)(hc:Fit k c)(hk:k<=3000)(hr:r.aX.length<=1048576):rH [.l (c.map aw),ii r.ae,ii r.kind,ii r.owner,ii r.key,ii r.seq,.l (r.aX.map eJ),ii r.cost,bb r.e_]=some [.l ((cM c r).map aw)]:=
 Jd _ r.ae r.kind r.owner r.key r.seq r.aX r.cost r.e_ (by have:=hc.len;omega) hc.aX hr
def P5(id:Int)(es:List cO)(cI:List ay)(fQ:Int)(own:List ay):List bd:=
 (List.range es.length).foldl (λc (i:Nat)=>c++x_ id (gt es (i:Int)) (scope (eQ same (if(i:Int)=fQ then []else eQ same [] cI) own) (gt es (i:Int)).ae)) []
theorem aeb(id node ae:Int)(own:List ay)(c:List bd)(i:Nat)(K:aA){d:List ay}(hd:Fit 1000 d)(ho:own.length<=1000)(no:aQ own)(hc:c.length<=1000)(hi:i<=1000):
  iter (zk wI rH (ii id) (.l (own.map aw)) (.l (c.map ej)) (ii i) (ii node) (ii ae) K) rounds [.l (d.map aw),ii 0]=
   K [.l ((c++(if(scope (eQ same d own) ae).length=0 then []else [(⟨3,id,node,ae,[],scope (eQ same d own) ae⟩:bd)])).map ej),ii (i+1)]:=by
 refine(gO own (λj e=>[.l (e.map aw),ii j]) (λe r=>cM e (same r)) (λe=>K [.l ((c++(if(scope e ae).length=0 then []else [(⟨3,id,node,ae,[],scope e ae⟩:bd)])).map ej),ii (i+1)]) d (λj e=>Fit (1000+j) e) rfl (c_ (by omega)) hd ?_ ?_).trans rfl
 ·intro j e hj he
  have hr:=no.gt (n:=j) (by omega) hj
  refine⟨he.put hr,λk=>?_⟩
  have hp:=aea (gt own j) he (by omega) hr
  simp(disch:=omega) only[↓pq,↓pj,ps,pz,↓reduceIte,af,ah,ai,aj,ak,ap,aq,au,av,AA,zk,C4,hj,hp]
  rfl
 ·intro e q he
  have hs:=zo e ae (by have:=he.len;omega) he.aX
  by_cases c1:((scope e ae).length:Int)>0
  ·have c2:¬(scope e ae).length=0:=by omega
   have p1:Prim.ev (.lit 6 [true,true,true,true,false,false]) [ii 3,ii id,ii node,ii ae,.l [],.l ((scope e ae).map aw)]=some (.l [ej ⟨3,id,node,ae,[],scope e ae⟩]):=Vw 3 id node ae [] (scope e ae)
   have p2:=uV (c:=c) ⟨3,id,node,ae,[],scope e ae⟩ (by omega)
   simp(disch:=omega) only[↓pq,↓pj,ps,pz,↓reduceIte,af,ah,ai,aj,ak,ap,aq,au,av,AA,zk,C4,hs,c1,c2,p1,p2]
  ·have c2:(scope e ae).length=0:=by omega
   simp(disch:=omega) only[↓pq,↓pj,ps,pz,↓reduceIte,af,ah,ai,aj,ak,ap,aq,au,av,AA,zk,C4,hs,c1,c2]
   simp
theorem aec(x:Self)(es:List cO)(cI:List ay)(fQ:Int)(own:List ay)(he:es.length<=1000)(hl:cI.length<=1000)(ho:own.length<=1000)(nl:aQ cI)(no:aQ own)(t1 t2 t3 t4 t5 t6:T):
  kN_ [ii x.id,t1,t2,t3,t4,t5,t6,.l (es.map bG),.l (cI.map aw),ii fQ,.l (own.map aw)]=some [.l ((P5 x.id es cI fQ own).map ej)]:=by
 rw[asj];simp(disch:=omega) only[↓pq,↓pj,ps,pz,↓reduceIte,af,ah,ai,aj,ak,ap,aq,au,av,AA,zk,C4,On]
 refine o6 es.length (λi c=>[.l (c.map ej),ii i]) (λc i=>c++x_ x.id (gt es (i:Int)) (scope (eQ same (if(i:Int)=fQ then []else eQ same [] cI) own) (gt es (i:Int)).ae)) (λc=>some [T.l (c.map ej)]) [] (λi c=>c.length<=i) rfl (c_ (by omega)) (by simp) ?_ ?_
 ·intro i c hi hc
  refine⟨by have:=Ih x.id (gt es (i:Int)) (scope (eQ same (if(i:Int)=fQ then []else eQ same [] cI) own) (gt es (i:Int)).ae);rw[List.length_append];omega,λq=>?_⟩
  unfold x_
  cases hb:(gt es (i:Int)).both with
  |false=>
   simp(disch:=omega) only[↓pq,↓pj,ps,pz,↓reduceIte,af,ah,ai,aj,ak,ap,aq,au,av,AA,zk,C4,hi,hb,cE]
   simp
  |true=>
   rw[if_pos rfl]
   by_cases c1:(i:Int)=fQ
   ·subst c1
    rw[if_pos rfl]
    have h:=aeb x.id (gt es (i:Int)).node (gt es (i:Int)).ae own c i q (d:=[]) (Fit.nil.mono (by omega)) ho no (by omega) (by omega)
    have e0:T.l (List.map aw [])=.l []:=rfl
    rw[e0]at h
    simp(disch:=omega) only[↓pq,↓pj,ps,pz,↓reduceIte,af,ah,ai,aj,ak,ap,aq,au,av,AA,zk,C4,hi,hb]
    exact h
   ·rw[if_neg c1]
    have h2:∀K:aA,(∀d:List ay,K [.l (d.map aw)]=iter (zk wI rH (ii x.id) (.l (own.map aw)) (.l (c.map ej)) (ii i) (ii (gt es (i:Int)).node) (ii (gt es (i:Int)).ae) q) rounds [.l (d.map aw),ii 0])->
      iter (AA rH (.l (cI.map aw)) K) rounds [.l [],ii 0]=K [.l ((eQ same [] cI).map aw)]:=by
     intro K hK
     refine(gO cI (λj e=>[.l (e.map aw),ii j]) (λe r=>cM e (same r)) (λe=>K [.l (e.map aw)]) [] (λj e=>Fit j e) rfl (c_ (by omega)) Fit.nil ?_ ?_).trans rfl
     ·intro j e hj he
      have hr:=nl.gt (n:=j) (by omega) hj
      refine⟨he.put hr,λk=>?_⟩
      have hp:=aea (gt cI j) he (by omega) hr
      simp(disch:=omega) only[↓pq,↓pj,ps,pz,↓reduceIte,af,ah,ai,aj,ak,ap,aq,au,av,AA,zk,C4,hj,hp]
      rfl
     ·intro e q2 he
      simp(disch:=omega) only[↓pq,↓pj,ps,pz,↓reduceIte,af,ah,ai,aj,ak,ap,aq,au,av,AA,zk,C4,]
    have f1:=Fit.lE (f:=same) (l:=cI) (λr hr=>nl r hr) Fit.nil
    have h:=aeb x.id (gt es (i:Int)).node (gt es (i:Int)).ae own c i q (d:=eQ same [] cI) (f1.mono (by omega)) ho no (by omega) (by omega)
    simp(disch:=omega) only[↓pq,↓pj,ps,pz,↓reduceIte,af,ah,ai,aj,ak,ap,aq,au,av,AA,zk,C4,hi,hb,c1]
    refine Eq.trans ?_ h
    refine(h2 _ λd=>?_).trans ?_
    ·rfl
    ·rfl
 ·intro c q hc
  simp(disch:=omega) only[↓pq,↓pj,ps,pz,↓reduceIte,af,ah,ai,aj,ak,ap,aq,au,av,AA,zk,C4,]
def Has(s:List ay)(r:ay)(n:Int):Prop:=∃x∈s,dS x r=true∧n<=x.seq
theorem av4{s:List ay}(hs:ig s){r:ay}(h:oN s r=true):∀x∈s,dS x r=true->x.seq<r.seq:=by
 intro x hx hk
 unfold oN at h
 rw[if_pos (H6 hx hk),PC hs hx hk]at h
 simp only[bL,decide_eq_true_eq]at h
 exact h.2
theorem Has.ins{s:List ay}(hs:ig s){r:ay}{n:Int}(h:Has s r n)(y:ay):Has (mz s y) r n:=by
 obtain⟨x,hx,hk,hn⟩:=h
 unfold mz
 split
 ·rename_i hi
  cases hc:dS x y with
  |true=>
   have:=av4 hs hi x hx hc
   refine⟨y,fm.2 (.inl rfl),?_,by omega⟩
   rw[sameKey_iff]at*
   omega
  |false=>exact⟨x,fm.2 (.inr ⟨hx,hc⟩),hk,hn⟩
 ·exact⟨x,hx,hk,hn⟩
theorem P6:∀(l:List ay) (p:List ay×List ay),dv p.1=true->(∀r∈p.2,Has p.1 r r.seq∧eP r=true)->
  dv (l.foldl lj p).1=true∧(∀r n,Has p.1 r n->Has (l.foldl lj p).1 r n)∧∀r∈(l.foldl lj p).2,Has (l.foldl lj p).1 r r.seq∧eP r=true
 | [],p,h,h2=>⟨h,λ_ _ h=>h,h2⟩
 |y::l,p,h,h2=>by
  rw[List.foldl_cons]
  have hs:=qR h
  have g1:dv (lj p y).1=true:=by rw[DF];exact DE h y
  have g2:∀r n,Has p.1 r n->Has (lj p y).1 r n:=λr n hh=>by rw[DF];exact hh.ins hs y
  have g3:∀r∈(lj p y).2,Has (lj p y).1 r r.seq∧eP r=true:=by
   intro r hr
   by_cases hi:oN p.1 y=true
   ·have e1:(lj p y).2=p.2++[y]:=by unfold lj;rw[if_pos hi]
    have e2:(lj p y).1=cM p.1 y:=by unfold lj;rw[if_pos hi]
    rw[e1]at hr
    rcases List.mem_append.1 hr with hr|hr
    ·exact⟨g2 _ _ (h2 r hr).1,(h2 r hr).2⟩
    ·rw[List.mem_singleton.1 hr,e2]
     refine⟨⟨y,fm.2 (.inl rfl),Et y,Int.le_refl _⟩,?_⟩
     unfold oN at hi
     simp only[bL]at hi
     exact hi.1
   ·have e1:(lj p y).2=p.2:=by unfold lj;rw[if_neg hi]
    rw[e1]at hr
    exact⟨g2 _ _ (h2 r hr).1,(h2 r hr).2⟩
  obtain⟨f1,f2,f3⟩:=P6 l (lj p y) g1 g3
  exact⟨f1,λr n hh=>f2 r n (g2 r n hh),f3⟩
theorem DN{s:List ay}{r:ay}(h:r∈s):Has s r r.seq:=⟨r,h,Et r,Int.le_refl _⟩
theorem av5{s:List ay}{a b:ay}(lu:dS a b=true):bA s a=bA s b:=by
 unfold bA
 congr 1
 funext y
 rw[Bool.eq_iff_iff]
 exact⟨λhh=>tM hh lu,λhh=>tM hh (Dx lu)⟩
theorem aed{s:List ay}{a b:ay}(lu:dS a b=true):nQ s a=nQ s b:=by unfold nQ;rw[av5 lu]
theorem P7{s:List ay}(hs:ig s){r x:ay}(hx:x∈s)(hk:dS x r=true):nQ s r=x.seq:=by
 unfold nQ
 have:=H6 hx hk
 rw[if_neg (by omega),PC hs hx hk]
structure aee (x:Self) (y:Self×List ay):Prop where
 sorted:ig y.2
 Jq:∀r∈y.2,nQ x.store r<r.seq
 rok:∀r∈y.2,eP r=true
 store:dv y.1.store=true
 mem:∀r∈y.2,r∈y.1.store
 has:∀r∈x.store,Has y.1.store r r.seq
 same:y.1={x with store:=y.1.store}
theorem P8{x:Self}(h:jf x=true):aee x (jg x):=by
 obtain⟨hN,hid,iS,jJ,uo,cn⟩:=mJ h
 have rN:=qR cn
 unfold jg
 rw[if_pos h]
 unfold vD
 split
 ·rename_i hc
  have hF:=adu h (qS x.store x.id (fO x)) hc.1
  have ij:∀r∈qB x (ng x (qS x.store x.id (fO x))),nQ x.store r<r.seq:=by
   intro r hr
   have hs:∀q:ay,nQ x.store q<sY x q:=λq=>by unfold sY;split<;>omega
   rcases(PN (PO _ _) rN).1 hr with⟨w,hw,_,e⟩|⟨o,_,hg,e⟩
   ·rw[aed (e▸kX_ x w:dS r w=true),e]
    exact hs w
   ·rw[aed (e▸DG x o:dS r o=true),e]
    exact hs o
  generalize hG:qB x (ng x (qS x.store x.id (fO x)))=N at*
  have hNs:ig N:=hG▸Q2 x _
  refine⟨hNs,ij,hF,?_,λr hr=>(uS hNs).2 (.inl hr),λr hr=>?_,rfl⟩
  ·refine DD (Ia rN) (λr hr=>?_) hc.2
   rcases(uS hNs).1 hr with h1|h1
   ·exact hF r h1
   ·exact zU (by unfold dv at cn;simp only[bL]at cn;exact cn.2) r h1.1
  ·by_cases hk:∃o∈N,dS r o=true
   ·obtain⟨o,ho,hk⟩:=hk
    have:=ij o ho
    rw[P7 rN hr hk]at this
    exact⟨o,(uS hNs).2 (.inl ho),Dx hk,by omega⟩
   ·refine DN ((uS hNs).2 (.inr ⟨hr,λo ho=>?_⟩))
    cases hc:dS r o with
    |false=>rfl
    |true=>exact absurd ⟨o,ho,hc⟩ hk
 ·exact⟨.nil,λr hr=>(by cases hr),λr hr=>(by cases hr),cn,λr hr=>(by cases hr),λr hr=>DN hr,rfl⟩
theorem P9{s:List ay}(h:ig s):s.Pairwise λa b=>dS a b=false:=H_ (f:=same) h λr=>Et r
theorem aeg{id:Int}{es:List cO}{cI own:List ay}{k:Int}(h:∀r∈own,∀x∈cI,dS x r=true->x.seq<r.seq)(hp:ig own):P5 id es cI k own=AG id es k (nu cI own) (nu [] own):=by
 have e1:nu cI own=eQ same (eQ same [] cI) own:=Ig (λr hr x hx hk=>by
  rcases zZ hx with h1|⟨y,hy,e⟩
  ·cases h1
  ·exact h r hr x (by have e:x=y:=e;rw[e];exact hy) hk) (P9 hp)
 have e2:nu [] own=eQ same [] own:=Ig (λr hr x hx=>by cases hx) (P9 hp)
 unfold P5 AG
 rw[e1,e2]
 congr 1
 funext c i
 by_cases hi:(i:Int)=k
 ·rw[if_pos hi,if_pos hi]
 ·rw[if_neg hi,if_neg hi]
theorem av6(x:Self)(es:List cO)(h1:x.net.aB.length<=1048576)(h2:x.net.aG.length<=1048576)(h3:x.heard.length<=1048576)(h4:x.store.length<=1048576)(h5:aQ x.store)(h6:es.length<=1048576):
  kK_ [ii x.id,ii x.aV,ii x.net.n,.l (x.net.aB.map cT),.l (x.net.aG.map dj),.l (x.heard.map aE),.l (x.store.map aw),.l (es.map bG)]=some [ii x.id,ii x.aV,ii x.net.n,.l (x.net.aB.map cT),.l (x.net.aG.map dj),.l (x.heard.map aE),.l (x.store.map aw),.l (es.map bG)]:=by
 have hc:=adN x h1 h2 h3 h4 h5
 try simp only[ie]at hc
 rw[ar'];simp(disch:=omega) only[↓pq,↓pj,ps,pz,↓reduceIte,af,ah,ai,aj,ak,ap,aq,au,av,Oi,hc]
theorem av7(x:Self)(e:cO)(t1 t2 t3 t4 t5 t7 t8 t9:T)(h4:x.store.length<=1048576)(h5:aQ x.store):CX [ii x.id,t1,t2,t3,t4,t5,.l (x.store.map aw),t7,ii e.node,ii e.ae,t8,t9]=some (ej ⟨2,x.id,e.node,e.ae,[],xY x.store e.ae⟩):=by
 have hh:=H9 x.store e.ae h4 h5
 rw[aso];simp(disch:=omega) only[↓pq,↓pj,ps,pz,↓reduceIte,af,ah,ai,aj,ak,ap,aq,au,av,Oq,hh]
 rfl
theorem av8{es:List cO}{node ae:Int}(h:¬fo es node ae<0):(gt es (fo es node ae)).node=node∧(gt es (fo es node ae)).ae=ae:=by
 have:=q_ (λe:cO=>e.node==node&&e.ae==ae) es (by unfold fo at h;omega)
 simp only[bL,beq_iff_eq]at this
 exact this
theorem av9(x:Self)(e:cO)(list:List ay)(t1 t2 t3 t4 t5 t7 t8 t9 u0 u1 u2 u4:T)(h4:x.store.length<=1048576)(h5:aQ x.store)(q2:list.length<=1000)(q3:aQ list):
  qT_ [ii x.id,t1,t2,t3,t4,t5,.l (x.store.map aw),t7,ii e.node,ii e.ae,t8,t9,u0,u1,u2,ii e.ae,u4,.l (list.map aw)]=some [.l ((w9 x e list).map ej)]:=by
 have hs:=zo x.store e.ae h4 h5
 have oX:(scope x.store e.ae).length<=1048576:=Nat.le_trans (acd _ _) h4
 have sX:aQ (scope x.store e.ae):=λr hr=>h5 r (List.mem_filter.1 hr).1
 have xk:=Ie (scope x.store e.ae) list oX sX (by omega)
 have vH:=Ie list (scope x.store e.ae) (by omega) q3 oX
 have hh:=av7 x e t1 t2 t3 t4 t5 t7 t8 t9 h4 h5
 unfold w9
 have p1:=w8 3 x.id e.node e.ae (nS (scope x.store e.ae) list)
 have p2:=w8 2 x.id e.node e.ae (xY x.store e.ae)
 have a1:∀A:bd,Prim.ev (.app false 6) [.l [],.l [ej A]]=some (.l [ej A]):=λA=>uV (c:=[]) A (by simp)
 have a2:∀A B:bd,Prim.ev (.app false 6) [.l [ej A],.l [ej B]]=some (.l [ej A,ej B]):=λA B=>uV (c:=[A]) B (by simp)
 simp only[ej,List.map_nil]at hh
 rw[show(T.l ([]:List (List T)))=.l [] from rfl]at hh
 rw[asq]
 by_cases d1:((nS (scope x.store e.ae) list).length:Int)>0
 ·have DM:¬(nS (scope x.store e.ae) list).length=0:=by omega
  by_cases d2:((nS list (scope x.store e.ae)).length:Int)>0
  ·have w_:¬(nS list (scope x.store e.ae)).length=0:=by omega
   simp(disch:=omega) only[↓pq,↓pj,ps,pz,↓reduceIte,af,ah,ai,aj,ak,ap,aq,au,av,QO,hs,xk,vH,hh,d1,d2,DM,w_,p1,p2,a1,a2]
   rfl
  ·have w_:(nS list (scope x.store e.ae)).length=0:=by omega
   simp(disch:=omega) only[↓pq,↓pj,ps,pz,↓reduceIte,af,ah,ai,aj,ak,ap,aq,au,av,QO,hs,xk,vH,hh,d1,d2,DM,w_,p1,p2,a1,a2]
   rfl
 ·have DM:(nS (scope x.store e.ae) list).length=0:=by omega
  by_cases d2:((nS list (scope x.store e.ae)).length:Int)>0
  ·have w_:¬(nS list (scope x.store e.ae)).length=0:=by omega
   simp(disch:=omega) only[↓pq,↓pj,ps,pz,↓reduceIte,af,ah,ai,aj,ak,ap,aq,au,av,QO,hs,xk,vH,hh,d1,d2,DM,w_,p1,p2,a1,a2]
   rfl
  ·have w_:(nS list (scope x.store e.ae)).length=0:=by omega
   simp(disch:=omega) only[↓pq,↓pj,ps,pz,↓reduceIte,af,ah,ai,aj,ak,ap,aq,au,av,QO,hs,xk,vH,hh,d1,d2,DM,w_,p1,p2,a1,a2]
   rfl
theorem av_(n:Node)(p:bd)(h1:n.self.net.aB.length<=1048576)(h2:n.self.net.aG.length<=1048576)(h3:n.self.heard.length<=1048576)(h4:n.self.store.length<=1048576)(h5:aQ n.self.store)(h6:n.cq.length<=1000)
  (q1:p.heard.length<=1000)(q2:p.list.length<=1000)(q3:aQ p.list):
  j2_ (jt n++ej p)=some (jt (s8 n p).1++[.l ((s8 n p).2.map ej)]):=by
 obtain⟨x,es⟩:=n
 simp only at h1 h2 h3 h4 h5 h6
 simp only[jt,ej,List.cons_append,List.nil_append]
 have j3:=av6 x es h1 h2 h3 h4 h5 (by omega)
 have cV:=asN x.id x.aV x.net.n x.net.aB x.net.aG x.heard x.store es h1 h2 h3 h4 h5 (by omega)
 rw[show(⟨⟨x.id,x.aV,⟨x.net.n,x.net.aB,x.net.aG⟩,x.heard,x.store⟩,es⟩:Node)=⟨x,es⟩ from rfl]at cV
 have bR:=avV (ii x.id) (ii x.aV) (ii x.net.n) (.l (x.net.aB.map cT)) (.l (x.net.aG.map dj)) (.l (x.heard.map aE)) (.l (x.store.map aw)) es p.fQ p.ae (by omega)
 have jN:=ad_ p (by omega) (by omega) q3
 simp only[ej]at jN
 have bC:fo es p.fQ p.ae<es.length:=o5 _ _
 rw[asu]
 unfold s8
 simp only
 by_cases c1:j5 ⟨x,es⟩=true
 ·by_cases c2:DK p=true
  ·by_cases c3:p.to=x.id
   ·by_cases c4:fo es p.fQ p.ae<0
    ·rw[if_neg (λh=>h.2.2.2 c4)]
     rw[c1]at cV;rw[c2]at jN
     simp(disch:=omega) only[↓pq,↓pj,ps,pz,↓reduceIte,af,ah,ai,aj,ak,ap,aq,au,av,Ei,j3,bR,cV,jN,eq_true c3,c4]
     rfl
    ·rw[if_pos ⟨c1,c2,c3,c4⟩]
     rw[c1]at cV;rw[c2]at jN
     have rq:0<=fo es p.fQ p.ae:=by omega
     have qg:=(vE c1).1
     by_cases c5:p.kind=1
     ·rw[if_pos c5]
      obtain⟨Q4,l1,p1,p2⟩:=ad' (es:=es) (k:=fo es p.fQ p.ae) (b:=p.heard.contains x.id) rq bC
      have hc:=OI p.heard x.id (by omega)
      have hA:=z7 c1
      unfold Ii
      simp only
      have qe:=P0 es (fo es p.fQ p.ae) (p.heard.contains x.id)
      generalize qD es (fo es p.fQ p.ae) (p.heard.contains x.id)=pL at p2 qe
      have hb:=OE pL (by omega)
      have sy:=OC pL
      have hR:=H2 {x with heard:=iK pL} h1 h2 (by show(iK pL).length<=_;omega) h4 h5
      have hF:=Ik (x:={x with heard:=iK pL}) h5 (by show(iK pL).length<=_;omega)
      have hO:ig (jg {x with heard:=iK pL}).2:=by
       unfold jg
       split
       ·unfold vD
        split
        ·exact Q2 _ _
        ·exact .nil
       ·exact .nil
      generalize jg {x with heard:=iK pL}=y at hR hF hO
      simp only[ie,List.cons_append,List.nil_append]at hR
      have hw:=aec y.1 pL [] (-1) y.2 (by omega) (by simp) (by have:=hF.len;omega) (by simp[aQ]) hF.aX (ii y.1.aV) (ii y.1.net.n) (.l (y.1.net.aB.map cT)) (.l (y.1.net.aG.map dj)) (.l (y.1.heard.map aE)) (.l (y.1.store.map aw))
      rw[aeg (λr hr z hz=>by cases hz) hO]at hw
      have e0:T.l (List.map aw [])=.l []:=rfl
      rw[e0]at hw
      have lz:=F0 (enc:=bG) rq bC
      have aeh:=F0 (enc:=bG) (l:=Q4) rq (by omega)
      simp(disch:=omega) only[↓pq,↓pj,ps,pz,↓reduceIte,af,ah,ai,aj,ak,ap,aq,au,av,Ei,j3,bR,cV,jN,eq_true c3,c4,eq_true c5,hc,p1,p2,hb,hR,hw,lz,aeh]
     ·rw[if_neg c5]
      have lz:=F0 (enc:=bG) rq bC
      cases c6:(gt es (fo es p.fQ p.ae)).both with
      |false=>
       rw[if_neg (by simp)]
       simp(disch:=omega) only[↓pq,↓pj,ps,pz,↓reduceIte,af,ah,ai,aj,ak,ap,aq,au,av,Ei,j3,bR,cV,jN,eq_true c3,c4,c5,rq,bC,c6,lz,cE]
       rfl
      |true=>
       rw[if_pos rfl]
       by_cases c7:p.kind=2
       ·rw[if_pos c7]
        have hea:=(av8 c4).2
        have hs:=av9 x (gt es (fo es p.fQ p.ae)) p.list (ii x.aV) (ii x.net.n) (.l (x.net.aB.map cT)) (.l (x.net.aG.map dj)) (.l (x.heard.map aE)) (.l (es.map bG)) (ii (gt es (fo es p.fQ p.ae)).left) (bb (gt es (fo es p.fQ p.ae)).both) (ii p.kind) (ii p.fQ) (ii p.to) (.l (p.heard.map aE)) h4 h5 q2 q3
        rw[c6]at hs
        rw[hea]at hs
        simp(disch:=omega) only[↓pq,↓pj,ps,pz,↓reduceIte,af,ah,ai,aj,ak,ap,aq,au,av,Ei,j3,bR,cV,jN,eq_true c3,c4,c5,rq,bC,c6,eq_true c7,lz,hea,hs]
       ·rw[if_neg c7]
        have hL:=avp x p.list h1 h2 h3 h4 h5 (by omega) q3
        unfold Ij
        simp only
        have cn:=H7 qg
        have Q5:uR x p.list=Eu x.store p.list:=by unfold uR;rw[if_pos qg]
        have vF:=P1 p.list (x.store,[]) q3 h5 (by simp[aQ])
        obtain⟨g1,g2,g3⟩:=P6 p.list (x.store,[]) cn (by simp)
        have D6:=vI g1
        rw[show p.list.foldl lj (x.store,[])=Eu x.store p.list from rfl,<-Q5]at vF g1 g2 g3 D6
        generalize uR x p.list=z at hL vF D6 g1 g2 g3
        obtain⟨z1,z2,z3⟩:=vF
        have hz3:z.2.length<=1000:=by simp only[List.length_nil]at z3;omega
        have hR:=H2 {x with store:=z.1} h1 h2 h3 (by show z.1.length<=_;omega) z1
        have hF:=Ik (x:={x with store:=z.1}) z1 h3
        have hO:=P8 (x:={x with store:=z.1}) (k3_ qg g1)
        have hnw:∀r∈(jg {x with store:=z.1}).2,∀y∈z.2,dS y r=true->y.seq<r.seq:=by
         intro r hr y hy hk
         obtain⟨o,ho,hko,rN⟩:=(g3 y hy).1
         have:=hO.Jq r hr
         rw[P7 (qR g1) ho (tM hko hk)]at this
         omega
        have hOs:=hO.sorted
        generalize jg {x with store:=z.1}=y at hR hF hOs hnw
        simp only[ie,List.cons_append,List.nil_append]at hR
        have hFl:=hF.len
        have hw:=aec y.1 es z.2 (fo es p.fQ p.ae) y.2 h6 hz3 (by omega) z2 hF.aX (ii y.1.aV) (ii y.1.net.n) (.l (y.1.net.aB.map cT)) (.l (y.1.net.aG.map dj)) (.l (y.1.heard.map aE)) (.l (y.1.store.map aw))
        rw[aeg hnw hOs]at hw
        simp(disch:=omega) only[↓pq,↓pj,ps,pz,↓reduceIte,af,ah,ai,aj,ak,ap,aq,au,av,Ei,j3,bR,cV,jN,eq_true c3,c4,c5,rq,bC,c6,c7,lz,hL,hR,hw]
   ·rw[if_neg (λh=>c3 h.2.2.1)]
    rw[c1]at cV;rw[c2]at jN
    simp(disch:=omega) only[↓pq,↓pj,ps,pz,↓reduceIte,af,ah,ai,aj,ak,ap,aq,au,av,Ei,j3,bR,cV,jN,c3]
    rfl
  ·rw[if_neg (λh=>c2 h.2.1)]
   rw[c1]at cV;rw[Bool.eq_false_iff.2 c2]at jN
   simp(disch:=omega) only[↓pq,↓pj,ps,pz,↓reduceIte,af,ah,ai,aj,ak,ap,aq,au,av,Ei,j3,bR,cV,jN,cE]
   rfl
 ·rw[if_neg (λh=>c1 h.1)]
  rw[Bool.eq_false_iff.2 c1]at cV
  simp(disch:=omega) only[↓pq,↓pj,ps,pz,↓reduceIte,af,ah,ai,aj,ak,ap,aq,au,av,Ei,j3,bR,cV,cE]
  rfl
structure uW (id:Int) (es:List cO) (p:bd):Prop where
 fQ:p.fQ=id
 ear:(p.to,p.ae)∈es.map rl
 ok:DK p=true
theorem P_{x:Self}{es:List cO}(hN:n7 x.net=true)(h:dT x es){v a:Int}(hp:(v,a)∈es.map rl):(1<=v∧v<=6)∧(0<=a∧a<=2)∧v≠x.id:=by
 have hA:=PR x.net.aB x.id x.net.n.toNat
 have hA:nR x.net.aB x.id ((x.net.n.toNat:Int)+1) 0 (nM x.net.aB x.id x.net.n):=hA
 rw[h]at hp
 obtain⟨e,he,e1⟩:=List.mem_map.1 hp
 have hv:e.node=v:=(Prod.mk.inj e1).1
 have ha:e.ae=a:=(Prod.mk.inj e1).2
 have h1:=(hA.2 e he).1
 have h2:=q_ _ _ h1
 have h3:=o5 (eE x.id e.node e.ae) x.net.aB
 obtain⟨_,_,_,hl,_⟩:=rM hN
 have h4:=bW.1 hl (dJ (eE x.id e.node e.ae) x.net.aB).toNat (by omega)
 rw[show(((dJ (eE x.id e.node e.ae) x.net.aB).toNat:Nat):Int)=dJ (eE x.id e.node e.ae) x.net.aB by omega]at h4
 simp only[eE,bL,Bool.or_eq_true,beq_iff_eq]at h2
 simp only[bL,kj,be,decide_eq_true_eq]at h4
 omega
theorem awa{p:bd}(h:DK p=true):p.heard.length<=6∧p.list.length<=150∧aQ p.list:=by
 rw[PX]at h
 unfold z8 at h
 simp only[bL]at h
 have h1:=h.2.1
 have h2:=h.2.2.1.2
 unfold rp at h1
 refine⟨HK (n:=6) ?_ ?_,vI h2,w6 h2⟩
 ·have:=Pm (by intro a b c;simp;omega) h1
  exact this.imp (by intro a b;simp)
 ·intro x hx
  have:=zU h1 x hx
  exact be.1 this
theorem aej{p:bd}(hk:1<=p.kind∧p.kind<=3)(hf:1<=p.fQ∧p.fQ<=6)(ht:1<=p.to∧p.to<=6)(dU:p.fQ≠p.to)(ha:0<=p.ae∧p.ae<=2)(hu:rp p.heard=true)
  (h1:if p.kind=1 then p.list.length=0 else p.heard.length=0)(hs:dv p.list=true)(hl:∀r∈p.list,n8 p.ae r=true∧(p.kind=2->qC r=true)):DK p=true:=by
 unfold DK
 simp only[bL,be,Bool.not_eq_true',beq_eq_false_iff_ne,ne_eq]
 refine⟨⟨⟨⟨⟨⟨⟨⟨hk,hf⟩,ht⟩,dU⟩,ha⟩,hu⟩,?_⟩,hs⟩,List.all_eq_true.2 λr hr=>?_⟩
 ·split at h1<;>rename_i c
  ·rw[if_pos c];exact decide_eq_true h1
  ·rw[if_neg c];exact decide_eq_true h1
 ·have:=hl r hr
  rw[this.1,Bool.true_and]
  by_cases c:p.kind=2
  ·rw[this.2 c];simp
  ·simp[c]
theorem P'{s:List ay}(h:ig s)(hr:∀r∈s,eP r=true)(hl:s.length<=150)(a:Int):dv (scope s a)=true∧∀r∈scope s a,n8 a r=true:=
 ⟨DD (List.Pairwise.filter _ h) (λr h=>hr r (List.mem_filter.1 h).1) (Nat.le_trans (List.length_filter_le _ _) hl),λr h=>(List.mem_filter.1 h).2⟩
theorem awb{r:ay}(h:eP r=true):eP (s6 r)=true:=by
 unfold eP at h⊢
 unfold s6
 simp only[bL]at h⊢
 refine⟨h.1,?_⟩
 have h2:=h.2
 by_cases k1:r.kind=1
 ·rw[if_pos k1]at h2⊢
  simp only[bL,decide_eq_true_eq]at h2
  rw[k1]
  simp[h2.1.1.1.1,h2.1.1.1.2,tH,ke,decide_eq_true]
 ·rw[if_neg k1]at h2⊢
  by_cases k2:r.kind=2
  ·rw[if_pos k2]at h2⊢
   simp only[bL,decide_eq_true_eq]at h2
   rw[k2]
   simp[gx]
   exact⟨be.1 h2.1.1.1.1,be.1 h2.1.1.1.2⟩
  ·rw[if_neg k2]at h2⊢
   by_cases k3:r.kind=3
   ·rw[if_pos k3]at h2⊢
    simp only[bL,decide_eq_true_eq]at h2
    rw[k3]
    simp[h2.1.1.1,h2.1.1.2,gx]
    have:=h2.1.1.2
    rw[be]at this
    omega
   ·rw[if_neg k3]at h2;cases h2
theorem awc(r:ay):qC (s6 r)=true:=by
 unfold qC s6 vy dS Ej
 simp[ke]
theorem Il{s:List ay}(h:dv s=true)(a:Int):dv (xY s a)=true∧∀r∈xY s a,n8 a r=true∧((2:Int)=2->qC r=true):=by
 have hr:=zU (by unfold dv at h;simp only[bL]at h;exact h.2:du eP fC s=true)
 obtain⟨h1,h2⟩:=P' (qR h) hr (vI h) a
 refine⟨DD (List.pairwise_map.2 ((qR h1).imp λ{x y} q=>q)) (λr jG=>?_) (by unfold xY;rw[List.length_map];exact vI h1),λr jG=>?_⟩
 ·obtain⟨y,hy,rfl⟩:=List.mem_map.1 jG
  exact awb (hr y (List.mem_filter.1 hy).1)
 ·obtain⟨y,hy,rfl⟩:=List.mem_map.1 jG
  exact⟨h2 y hy,λ_=>awc y⟩
theorem Im{x:Self}{es:List cO}(hx:jf x=true)(hA:dT x es){e:cO}(he:e∈es){k:Int}(hk:k=2∨k=3){l:List ay}(hs:dv l=true)(hl:∀r∈l,n8 e.ae r=true∧(k=2->qC r=true)):uW x.id es ⟨k,x.id,e.node,e.ae,[],l⟩:=by
 obtain⟨hN,hid,_⟩:=mJ hx
 have hn:=(rM hN).1
 have hm:(e.node,e.ae)∈es.map rl:=List.mem_map_of_mem he
 obtain⟨h1,h2,h3⟩:=P_ hN hA hm
 refine⟨rfl,hm,aej (by show 1<=k∧k<=3;omega) (by show 1<=x.id∧x.id<=6;omega) h1 (λc=>h3 c.symm) h2 rfl ?_ hs hl⟩
 rw[if_neg (by show¬k=1;omega)]
 rfl
theorem awd{es:List cO}{a x:Int}(h:x∈zQ es a):∃f∈es,f.node=x:=by
 have:∀(l:List cO) (c:List Int),x∈l.foldl (λc f=>if f.ae=a then(if f.left>0 then gq c f.node else c)else c) c->x∈c∨∃f∈l,f.node=x:=by
  intro l
  induction l with
  |nil=>intro c h;exact .inl h
  |cons e l ih=>
   intro c h
   rw[List.foldl_cons]at h
   rcases ih _ h with h|⟨f,hf,e1⟩
   ·split at h
    ·split at h
     ·rcases jE.1 h with h|h
      ·exact .inr ⟨e,.head _,h.symm⟩
      ·exact .inl h
     ·exact .inl h
    ·exact .inl h
   ·exact .inr ⟨f,.tail _ hf,e1⟩
 rcases this es [] h with h|h
 ·cases h
 ·exact h
theorem awe{x:Self}{es:List cO}(hx:jf x=true)(hA:dT x es){e:cO}(he:e∈es):uW x.id es ⟨1,x.id,e.node,e.ae,zQ es e.ae,[]⟩:=by
 obtain⟨hN,hid,_⟩:=mJ hx
 have hn:=(rM hN).1
 have hm:(e.node,e.ae)∈es.map rl:=List.mem_map_of_mem he
 obtain⟨h1,h2,h3⟩:=P_ hN hA hm
 refine⟨rfl,hm,aej (by show(1:Int)<=1∧(1:Int)<=3;decide) (by show 1<=x.id∧x.id<=6;omega) h1 (λc=>h3 c.symm) h2 ?_ (by rw[if_pos rfl];rfl) rfl (by intro r hr;cases hr)⟩
 have hp:=(auV es e.ae (i:=es.length)).1
 rw[List.take_length]at hp
 unfold rp
 refine zG (λy hy=>?_) (hp.imp λ{a b} h=>by simp;omega)
 obtain⟨f,hf,rfl⟩:=awd hy
 exact be.2 (P_ hN hA (List.mem_map_of_mem (f:=rl) hf)).1
theorem awf{x:Self}{es:List cO}(hx:jf x=true)(hA:dT x es){e:cO}(he:e∈es):∀p∈pI x es e,uW x.id es p:=by
 intro p hp
 unfold pI at hp
 rcases List.mem_cons.1 hp with rfl|hp
 ·exact awe hx hA he
 ·split at hp
  ·rw[List.mem_singleton]at hp
   rw[hp]
   have cn:=(mJ hx).2.2.2.2.2
   exact Im hx hA he (.inl rfl) (Il cn e.ae).1 (Il cn e.ae).2
  ·cases hp
theorem awg{id:Int}{e:cO}{w:List ay}{p:bd}(h:p∈x_ id e w):p=⟨3,id,e.node,e.ae,[],w⟩:=by
 unfold x_ at h
 split at h
 ·split at h
  ·cases h
  ·exact List.mem_singleton.1 h
 ·cases h
theorem awh{id:Int}{es:List cO}{k:Int}{all gC:List ay}{p:bd}(h:p∈AG id es k all gC):∃e∈es,∃w,(w=all∨w=gC)∧p=⟨3,id,e.node,e.ae,[],scope w e.ae⟩:=by
 unfold AG at h
 have:∀(l:List Nat) (c:List bd),(∀i∈l,i<es.length)->p∈l.foldl (λc (i:Nat)=>c++x_ id (gt es (i:Int)) (scope (if(i:Int)=k then gC else all) (gt es (i:Int)).ae)) c->
   p∈c∨∃e∈es,∃w,(w=all∨w=gC)∧p=⟨3,id,e.node,e.ae,[],scope w e.ae⟩:=by
  intro l
  induction l with
  |nil=>intro c _ h;exact .inl h
  |cons i l ih=>
   intro c hl h
   rw[List.foldl_cons]at h
   rcases ih _ (λj hj=>hl j (.tail _ hj)) h with h|h
   ·rcases List.mem_append.1 h with h|h
    ·exact .inl h
    ·refine .inr ⟨gt es (i:Int),iT (by omega) (by have:=hl i (.head _);omega),if(i:Int)=k then gC else all,by split<;>simp,?_⟩
     exact awg h
   ·exact .inr h
 rcases this _ [] (λi hi=>List.mem_range.1 hi) h with h|h
 ·cases h
 ·exact h
theorem aek(id:Int)(es:List cO)(k:Int)(all gC:List ay):(AG id es k all gC).length<=es.length:=by
 have:=IU (l:=List.range es.length) (g:=λ(c:List bd) (i:Nat)=>c++x_ id (gt es (i:Int)) (scope (if(i:Int)=k then gC else all) (gt es (i:Int)).ae)) (c:=[]) (Inv:=λi (c:List bd)=>c.length<=i) (by simp) (λi c hi hc=>by
  have:=Ih id (gt es ((gt (List.range es.length) (i:Int):Nat):Int)) (scope (if((gt (List.range es.length) (i:Int):Nat):Int)=k then gC else all) (gt es ((gt (List.range es.length) (i:Int):Nat):Int)).ae)
  rw[List.length_append];omega)
 rw[List.length_range]at this
 exact this
theorem ael{cI own s:List ay}(hs:dv s=true)(h1:∀r∈cI,Has s r r.seq∧eP r=true)(h2:∀r∈own,r∈s)(h3:∀r∈own,eP r=true)(h4:∀r∈own,∀x∈cI,dS x r=true->x.seq<r.seq)(hp:ig own)(a:Int):
  dv (scope (nu cI own) a)=true∧∀r∈scope (nu cI own) a,n8 a r=true:=by
 have e1:nu cI own=eQ same (eQ same [] cI) own:=Ig (λr hr x hx hk=>by
  rcases zZ hx with h1|⟨y,hy,e⟩
  ·cases h1
  ·exact h4 r hr x (by have e:x=y:=e;rw[e];exact hy) hk) (P9 hp)
 rw[e1]
 have hS:ig (eQ same (eQ same [] cI) own):=Ia (Ia .nil)
 have hm:∀r∈eQ same (eQ same [] cI) own,r∈cI∨r∈own:=by
  intro r hr
  rcases zZ hr with h|⟨y,hy,e⟩
  ·rcases zZ h with h|⟨y,hy,e⟩
   ·cases h
   ·exact .inl (by have e:r=y:=e;rw[e];exact hy)
  ·exact .inr (by have e:r=y:=e;rw[e];exact hy)
 refine P' hS (λr hr=>?_) (Nat.le_trans (qh_ hS (qR hs) λr hr=>?_) (vI hs)) a
 ·rcases hm r hr with h|h
  ·exact(h1 r h).2
  ·exact h3 r h
 ·rcases hm r hr with h|h
  ·obtain⟨x,hx,hk,_⟩:=(h1 r h).1
   exact⟨x,hx,Dx hk⟩
  ·exact⟨r,h2 r h,Et r⟩
theorem Qa{x:Self}{es:List cO}(h:j5 ⟨x,es⟩=true){s:List ay}(hs:dv s=true):j5 ⟨{x with store:=s},es⟩=true:=by
 unfold j5 at h⊢
 simp only[bL]at h⊢
 exact⟨k3_ h.1 hs,h.2⟩
theorem aem{n:Node}(h:j5 n=true):∀e∈n.cq,Ev e:=by
 intro e he
 obtain⟨i,hi,rfl⟩:=List.mem_iff_getElem.1 he
 unfold j5 AB at h
 simp only[bL,decide_eq_true_eq]at h
 have:=bW.1 h.2.1.2 i hi
 rw[eh hi]at this
 unfold zn at this
 simp only[bL,be,Bool.not_eq_true',decide_eq_true_eq]at this
 refine⟨this.2.2.1,λhb=>?_⟩
 have h2:=this.2.2.2
 rw[hb]at h2
 simpa using h2
theorem awi{e:cO}(h:Ev e):Ev (l9 e):=by
 obtain⟨h1,h2⟩:=h
 unfold l9
 refine⟨?_,λhb=>?_⟩
 ·show 0<=(if 0>e.left-1 then 0 else e.left-1)∧(if 0>e.left-1 then 0 else e.left-1)<=3
  split<;>omega
 ·simp only[bL,decide_eq_true_eq]at hb
  have:=hb.2
  intro hc
  have hc:(if 0>e.left-1 then 0 else e.left-1)=0:=hc
  omega
theorem awj{x:Self}{es:List cO}(h:dT x es){k:Int}(h0:0<=k)(h1:k<es.length)(b:Bool):dT x (qD es k b):=by
 unfold dT at h⊢
 rw[<-h]
 unfold qD
 rw[List.map_set]
 refine List.ext_getElem (by simp) λi h2 h3=>?_
 rw[List.getElem_set]
 split
 ·rename_i e
  obtain⟨m,rfl⟩:∃m:Nat,k=m:=⟨k.toNat,by omega⟩
  simp only[Int.toNat_natCast]at e
  subst e
  rw[eh (by omega),List.getElem_map]
  rfl
 ·rfl
theorem awk{es:List cO}(h:∀e∈es,Ev e)(k:Int)(b:Bool):∀e∈qD es k b,Ev e:=by
 intro e he
 unfold qD at he
 rcases List.mem_or_eq_of_mem_set he with he|rfl
 ·exact h e he
 ·exact⟨by show(0:Int)<=3∧(3:Int)<=3;decide,λ_=>by show(3:Int)≠0;decide⟩
structure DO (n:Node) (r:Node×List bd):Prop where
 ok:j5 r.1=true
 has:∀x∈n.self.store,Has r.1.self.store x x.seq
 says:∀p∈r.2,uW n.self.id n.cq p
 few:r.2.length<=36
theorem aen{x:Self}{es pL:List cO}(h:dT x es)(h2:dT x pL){id:Int}{p:bd}(hp:uW id pL p):uW id es p:=
 ⟨hp.fQ,by have:=hp.ear;rw[h2]at this;rw[h];exact this,hp.ok⟩
theorem aeo{n:Node}(h:j5 n=true){es:List cO}(hA:dT n.self es)(hL:∀e∈es,Ev e):
  j5 ⟨(jg {n.self with heard:=iK es}).1,es⟩=true∧aee {n.self with heard:=iK es} (jg {n.self with heard:=iK es}):=by
 have hx:=(vE h).1
 have hO:=P8 (Ic hx hA)
 refine⟨?_,hO⟩
 have:=Qa (ad6 hx hA hL) hO.store
 rw[hO.same]
 exact this
theorem awl{n:Node}(h:j5 n=true):DO n (uP n)∧n.cq.length<=(uP n).2.length:=by
 have hA:=z7 h
 have xp:=ad2 hA
 obtain⟨cV,hO⟩:=aeo h xp (λe he=>by obtain⟨f,hf,rfl⟩:=List.mem_map.1 he;exact awi (aem h f hf))
 have vk:=(vE h).2.2
 unfold uP
 rw[if_pos h]
 have hN:j5 (qT n)=true:=cV
 have hs:=(vE hN).1
 have hid:(qT n).self.id=n.self.id:=by
  show(jg {n.self with heard:=iK (n.cq.map l9)}).1.id=n.self.id
  rw[hO.same]
 have hAt:=z7 hN
 have hAx:dT n.self (qT n).cq:=xp
 have hlen:∀l:List cO,l.length<=(l.flatMap (pI (qT n).self (qT n).cq)).length∧(l.flatMap (pI (qT n).self (qT n).cq)).length<=2*l.length:=by
  intro l
  induction l with
  |nil=>simp
  |cons e l ih=>
   rw[List.flatMap_cons,List.length_append,List.length_cons]
   have:1<=(pI (qT n).self (qT n).cq e).length∧(pI (qT n).self (qT n).cq e).length<=2:=by
    unfold pI
    split<;>simp
   omega
 have hl:=hlen (qT n).cq
 have qe:(qT n).cq.length=n.cq.length:=by show(n.cq.map l9).length=_;simp
 refine⟨⟨hN,λr hr=>hO.has r hr,λp hp=>?_,by show(List.flatMap _ _).length<=36;omega⟩,by show _<=(List.flatMap _ _).length;omega⟩
 obtain⟨e,he,hp⟩:=List.mem_flatMap.1 hp
 have:=awf hs hAt he p hp
 rw[hid]at this
 exact aen hA hAx this
theorem aep{n:Node}{y:Self}{es:List cO}{cI own:List ay}{k:Int}(hN:j5 ⟨y,es⟩=true)(hid:y.id=n.self.id)(hA:dT n.self n.cq)(xp:dT n.self es)
  (h1:∀r∈cI,Has y.store r r.seq∧eP r=true)(h2:∀r∈own,r∈y.store)(h3:∀r∈own,eP r=true)(h4:∀r∈own,∀x∈cI,dS x r=true->x.seq<r.seq)(hp:ig own):
  ∀p∈AG y.id es k (nu cI own) (nu [] own),uW n.self.id n.cq p:=by
 intro p hpp
 have hs:=(vE hN).1
 have cn:=(mJ hs).2.2.2.2.2
 have hAt:=z7 hN
 obtain⟨e,he,w,hw,rfl⟩:=awh hpp
 have xj:dv (scope w e.ae)=true∧∀r∈scope w e.ae,n8 e.ae r=true:=by
  rcases hw with rfl|rfl
  ·exact ael cn h1 h2 h3 h4 hp e.ae
  ·exact ael cn (by intro r hr;cases hr) h2 h3 (by intro r hr x hx;cases hx) hp e.ae
 have:=Im hs hAt he (.inr rfl) xj.1 (λr hr=>⟨xj.2 r hr,λc=>by cases c⟩)
 rw[hid]at this⊢
 exact aen hA xp this
theorem awn{n:Node}(h:j5 n=true)(p:bd):DO n (s8 n p):=by
 have hA:=z7 h
 have hx:=(vE h).1
 have vk:=(vE h).2.2
 have cn:=(mJ hx).2.2.2.2.2
 have stay:DO n (n,[]):=⟨h,λr hr=>DN hr,(by intro p hp;cases hp),by simp⟩
 unfold s8
 split
 ·rename_i hc
  have bC:fo n.cq p.fQ p.ae<n.cq.length:=o5 _ _
  have h0:0<=fo n.cq p.fQ p.ae:=by omega
  split
  ·unfold Ii
   simp only
   generalize hE:qD n.cq (fo n.cq p.fQ p.ae) (p.heard.contains n.self.id)=es
   have xp:dT n.self es:=hE▸awj hA h0 bC _
   have hL2:∀e∈es,Ev e:=hE▸awk (aem h) _ _
   have qe:es.length=n.cq.length:=hE▸P0 _ _ _
   obtain⟨cV,hO⟩:=aeo h xp hL2
   have hid:(jg {n.self with heard:=iK es}).1.id=n.self.id:=by rw[hO.same]
   generalize jg {n.self with heard:=iK es}=y at cV hO hid
   have oX:=aek y.1.id es (-1) (nu [] y.2) (nu [] y.2)
   exact⟨cV,λr hr=>hO.has r hr,aep (cI:=[]) cV hid hA xp (by intro r hr;cases hr) hO.mem hO.rok (by intro r hr x hx;cases hx) hO.sorted,by show(AG _ _ _ _ _).length<=36;omega⟩
  ·split
   ·split
    ·refine⟨h,λr hr=>DN hr,λq hq=>?_,?_⟩
     ·have he:gt n.cq (fo n.cq p.fQ p.ae)∈n.cq:=iT h0 bC
      generalize gt n.cq (fo n.cq p.fQ p.ae)=e at he hq
      have aeq:=zU (by unfold dv at cn;simp only[bL]at cn;exact cn.2:du eP fC n.self.store=true)
      obtain⟨s1,s2⟩:=P' (qR cn) aeq (vI cn) e.ae
      unfold w9 at hq
      rcases List.mem_append.1 hq with hq|hq
      ·split at hq
       ·cases hq
       ·rw[List.mem_singleton.1 hq]
        have s3:dv (nS (scope n.self.store e.ae) p.list)=true:=DD (List.Pairwise.filter _ (qR s1)) (λr hr=>aeq r (List.mem_filter.1 (List.mem_filter.1 hr).1).1) (Nat.le_trans (List.length_filter_le _ _) (vI s1))
        exact Im hx hA he (.inr rfl) s3 (λr hr=>⟨s2 r (List.mem_filter.1 hr).1,λc=>by cases c⟩)
      ·split at hq
       ·cases hq
       ·rw[List.mem_singleton.1 hq]
        exact Im hx hA he (.inl rfl) (Il cn e.ae).1 (Il cn e.ae).2
     ·show(w9 _ _ _).length<=36
      unfold w9
      rw[List.length_append]
      split<;>split<;>simp
    ·unfold Ij
     simp only
     obtain⟨g1,g2,g3⟩:=P6 p.list (n.self.store,[]) cn (by simp)
     have Q5:uR n.self p.list=Eu n.self.store p.list:=by unfold uR;rw[if_pos hx]
     rw[show p.list.foldl lj (n.self.store,[])=Eu n.self.store p.list from rfl,<-Q5]at g1 g2 g3
     generalize uR n.self p.list=z at g1 g2 g3
     have hO:=P8 (x:={n.self with store:=z.1}) (k3_ hx g1)
     have cV:=Qa h (s:=z.1) g1
     have yH:=Qa cV hO.store
     have hnw:∀r∈(jg {n.self with store:=z.1}).2,∀y∈z.2,dS y r=true->y.seq<r.seq:=by
      intro r hr y hy hk
      obtain⟨o,ho,hko,rN⟩:=(g3 y hy).1
      have:=hO.Jq r hr
      rw[P7 (qR g1) ho (tM hko hk)]at this
      omega
     have hid:(jg {n.self with store:=z.1}).1.id=n.self.id:=by rw[hO.same]
     rw[show j5 ⟨{n.self with store:=(jg {n.self with store:=z.1}).1.store},n.cq⟩=j5 ⟨(jg {n.self with store:=z.1}).1,n.cq⟩ from by conv=>rhs;rw[hO.same]]at yH
     generalize jg {n.self with store:=z.1}=y at yH hO hid hnw
     have hh:∀r m,Has z.1 r m->Has y.1.store r m:=by
      rintro r m ⟨o,ho,hk,hm⟩
      obtain⟨q,hq,hkq,hmq⟩:=hO.has o ho
      exact⟨q,hq,tM hkq hk,by omega⟩
     have oX:=aek y.1.id n.cq (fo n.cq p.fQ p.ae) (nu z.2 y.2) (nu [] y.2)
     exact⟨yH,λr hr=>hh r _ (g2 r _ (DN hr)),aep yH hid hA hA (λr hr=>⟨hh r _ (g3 r hr).1,(g3 r hr).2⟩) hO.mem hO.rok hnw hO.sorted,by show(AG _ _ _ _ _).length<=36;omega⟩
   ·exact stay
 ·exact stay
theorem aer{s t:List ay}(ht:dv t=true)(h:∀r∈s,Has t r r.seq):nS s t=[]:=by
 refine List.filter_eq_nil_iff.2 λr hr=>?_
 obtain⟨x,hx,hk,hn⟩:=h r hr
 have h1:=H6 hx hk
 have h2:=PC (qR ht) hx hk
 unfold w7
 rw[h2]
 simp
 omega
def aes:List Ty:=[.sl Pz]
theorem Io{n:Node}(h:j5 n=true):n.self.net.aB.length<=12∧n.self.net.aG.length<=4∧n.self.heard.length<=36∧n.self.store.length<=150∧aQ n.self.store∧n.cq.length<=18:=by
 obtain⟨hs,_,he⟩:=vE h
 have hN:=rM (mJ hs).1
 have cn:=(mJ hs).2.2.2.2.2
 have hh:iK n.cq=n.self.heard:=by
  unfold j5 at h
  simp only[bL]at h
  exact jC.1 h.2.2
 have:=OC n.cq
 rw[hh]at this
 exact⟨hN.2.1,hN.2.2.1,by omega,vI cn,w6 cn,he⟩
theorem Qb{n:Node}(h:j5 n=true):Eb (jt n)=some [bb true]:=by
 obtain⟨⟨id,bt,⟨m,ls,ths⟩,hd,st⟩,es⟩:=n
 obtain⟨h1,h2,h3,h4,h5,h6⟩:=Io h
 simp only at h1 h2 h3 h4 h5 h6
 have:=OG id bt m ls ths hd st es (by omega) (by omega) (by omega) (by omega) h5 (by omega)
 rw[h]at this
 exact this
theorem awo{α:Type}(f:α->Bool)(l:List α)(c:Bool):l.foldl (λc e=>c||f e) c=(c||l.any f):=by
 induction l generalizing c with
 |nil=>simp
 |cons a l ih=>rw[List.foldl_cons,ih,List.any_cons,Bool.or_assoc]
theorem awp(ts:List T)(h:je aes ts):Gp ts=some [.c (.bool true)]:=by
 obtain⟨B,rfl,hB⟩:=ava ts h
 rw[asw]
 by_cases hb:(B.length:Int)>1048576
 ·simp(disch:=omega) only[↓pq,↓pj,ps,pz,↓reduceIte,af,ah,ai,aj,ak,ap,aq,au,av,C5,C6,G7,adI,hb,decide_true]
 obtain⟨n,p,e,hn,q1,q2,q3⟩:=avS hB (by omega)
 simp(disch:=omega) only[↓pq,↓pj,ps,pz,↓reduceIte,af,ah,ai,aj,ak,ap,aq,au,av,C5,C6,G7,adI,hb,decide_false,cE,e]
 have cV:=hn.ok
 clear hn e hB hb
 obtain⟨h1,h2,h3,h4,h5,h6⟩:=Io cV
 have a1:=Qb cV
 have a2:=av2 n p (by omega) (by omega) (by omega) (by omega) h5 (by omega) (by omega) (by omega) q3
 have a3:=auX n (by omega) (by omega) (by omega) (by omega) h5 (by omega)
 have a4:=av_ n p (by omega) (by omega) (by omega) (by omega) h5 (by omega) (by omega) (by omega) q3
 have P2:=awn cV p
 obtain⟨P3,P4⟩:=awl cV
 generalize s8 n p=y at a2 a4 P2
 generalize uP n=z at a3 P3 P4
 obtain⟨y,yl⟩:=y
 obtain⟨z,zl⟩:=z
 obtain⟨o2,s2,l2,f2⟩:=P2
 obtain⟨o3,s3,l3,f3⟩:=P3
 simp only at*
 have a5:=Qb o2
 have a6:=Qb o3
 obtain⟨y1,y2,y3,y4,y5,y6⟩:=Io o2
 obtain⟨z1,z2,z3,z4,z5,z6⟩:=Io o3
 have a7:=Ie n.self.store y.self.store (by omega) h5 (by omega)
 have a8:=Ie n.self.store z.self.store (by omega) h5 (by omega)
 rw[aer (mJ (vE o2).1).2.2.2.2.2 s2]at a7
 rw[aer (mJ (vE o3).1).2.2.2.2.2 s3]at a8
 have e0:T.l (List.map aw [])=.l []:=rfl
 rw[e0]at a7 a8
 have b1:Prim.ev (.lit 6 []) []=some (.l []):=rfl
 have b2:Prim.ev (.app false 6) [.l [],.l (yl.map ej)]=some (.l (yl.map ej)):=Lu (l:=[]) (m:=yl) (by simp;omega)
 have b3:Prim.ev (.app false 6) [.l (yl.map ej),.l (zl.map ej)]=some (.l ((yl++zl).map ej)):=Lu (l:=yl) (m:=zl) (by omega)
 have all:∀q∈yl++zl,uW n.self.id n.cq q:=λq hq=>by
  rcases List.mem_append.1 hq with hq|hq
  ·exact l2 q hq
  ·exact l3 q hq
 have hL:(yl++zl).length<=100:=by rw[List.length_append];omega
 have c1:Prim.ev .len [.l (yl.map ej)]=some (ii yl.length):=B3
 have c2:Prim.ev .len [.l (zl.map ej)]=some (ii zl.length):=B3
 have c0:Prim.ev .len [.l ([]:List (List T))]=some (ii 0):=rfl
 have c3:(zl.length:Int)>=n.cq.length:=by omega
 generalize yl++zl=L at b3 all hL
 simp only[jt,ej,List.cons_append,List.nil_append]at a1 a2 a3 a4 a5 a6
 simp(disch:=omega) only[↓pq,↓pj,ps,pz,↓reduceIte,af,ah,ai,aj,ak,ap,aq,au,av,C5,C6,a1,a2,a3,a4,a5,a6,a7,a8,b1,b2,b3,c0,c1]
 refine C' (λi=>[bb false,ii (i:Int)]) L.length rfl (c_ (by omega)) ?_ ?_
 ·intro i hi q
  have hS:=all _ (iT (l:=L) (n:=(i:Int)) (by omega) hi)
  obtain⟨d1,d2,d3⟩:=hS
  obtain⟨g1,g2,g3⟩:=awa d3
  have hp:=ad_ (gt L (i:Int)) (by omega) (by omega) g3
  rw[d3]at hp
  simp only[ej,d1]at hp
  simp(disch:=omega) only[↓pq,↓pj,ps,pz,↓reduceIte,af,ah,ai,aj,ak,ap,aq,au,av,C5,C6,hi]
  refine(gO n.cq (λj c=>[bb c,ii j]) (λc f=>c||(decide (f.node=(gt L (i:Int)).to)&&decide (f.ae=(gt L (i:Int)).ae))) (λc=>if c=true then q [bb false,ii ((i+1:Nat):Int)]else some [bb false]) false (λ_ _=>True) rfl (c_ (by omega)) trivial ?_ ?_).trans ?_
  ·intro j c hj _
   refine⟨trivial,λw=>?_⟩
   cases c with
   |true=>simp(disch:=omega) only[↓pq,↓pj,ps,pz,↓reduceIte,af,ah,ai,aj,ak,ap,aq,au,av,C5,C6,hj];try simp
   |false=>
    by_cases k1:(gt n.cq (j:Int)).node=(gt L (i:Int)).to
    ·have hq:((gt n.cq (j:Int)).ae==(gt L (i:Int)).ae)=decide ((gt n.cq (j:Int)).ae=(gt L (i:Int)).ae):=by rw[Bool.eq_iff_iff];simp
     simp(disch:=omega) only[↓pq,↓pj,ps,pz,↓reduceIte,af,ah,ai,aj,ak,ap,aq,au,av,C5,C6,hj,hi,k1,cE];simp[hq]
    ·simp(disch:=omega) only[↓pq,↓pj,ps,pz,↓reduceIte,af,ah,ai,aj,ak,ap,aq,au,av,C5,C6,hj,hi,k1,cE];try simp
  ·intro c w _
   cases c with
   |true=>simp(disch:=omega) only[↓pq,↓pj,ps,pz,↓reduceIte,af,ah,ai,aj,ak,ap,aq,au,av,C5,C6,hi,d1,hp];try simp
   |false=>simp(disch:=omega) only[cE,if_false];simp(disch:=omega) only[↓pq,↓pj,ps,pz,↓reduceIte,af,ah,ai,aj,ak,ap,aq,au,av,C5,C6,cE];try simp
  ·obtain⟨f,hf,ef⟩:=List.mem_map.1 d2
   have e1:f.node=(gt L (i:Int)).to:=(Prod.mk.inj ef).1
   have e2:f.ae=(gt L (i:Int)).ae:=(Prod.mk.inj ef).2
   have e3:(decide (f.node=(gt L (i:Int)).to)&&decide (f.ae=(gt L (i:Int)).ae))=true:=by rw[decide_eq_true e1,decide_eq_true e2];rfl
   have e4:n.cq.any (λf=>decide (f.node=(gt L (i:Int)).to)&&decide (f.ae=(gt L (i:Int)).ae))=true:=List.any_eq_true (p:=λf:cO=>decide (f.node=(gt L (i:Int)).to)&&decide (f.ae=(gt L (i:Int)).ae)) |>.2 ⟨f,hf,e3⟩
   rw[awo (λf:cO=>decide (f.node=(gt L (i:Int)).to)&&decide (f.ae=(gt L (i:Int)).ae)) n.cq false,e4]
   rfl
 ·intro q
  have hz:¬((L.length:Int)<L.length):=by omega
  simp(disch:=omega) only[↓pq,↓pj,ps,pz,↓reduceIte,af,ah,ai,aj,ak,ap,aq,au,av,C5,C6,hz,c2,c3,decide_true]
end Go.Proofs.YtjimmglpkndemaaGreatC
