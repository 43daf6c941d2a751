/- A node that hears nobody: what it tells of itself, and its routes. Conditions: none. -/
import Derived.Test.YtjimmglpkndemaaGreatXSZe
namespace Go.Proofs.YtjimmglpkndemaaGreatC
set_option linter.unusedVariables false
set_option linter.unusedSimpArgs false
theorem aq4{e:eE}(h:0<=e.left∧e.left<=3):(iM (iM (iM e))).both=false:=by
 have hl:(iM (iM (iM e))).left=0:=by
  unfold iM
  simp only
  split<;>(try omega)<;>split<;>(try omega)<;>split<;>omega
 have hb:(iM (iM (iM e))).both=((iM (iM e)).both&&decide ((iM (iM (iM e))).left>0)):=rfl
 rw[hb,hl]
 simp
theorem ZI{es:List eE}(h:∀e∈es,e.both=false):nh es=[]:=by
 rw[ZG,List.filter_eq_nil_iff.2 (by intro e he;rw[h e he];decide)]
 rfl
theorem aq5{s:List ay}{ar fr:Int}(h:qv s ar fr=[])(v:Int):du s ar fr v=0:=by
 unfold du sK
 rw[h]
 have:ym [] v=0:=rfl
 rw[this]
 split<;>rfl
theorem ZJ{s:List ay}{ar fr:Int}(h:qv s ar fr=[]):∀w∈aH s ar fr,w.to=fr:=by
 intro w hw
 by_cases hc:eA s=true∧jO fr 1 6=true∧0<=iz s ar fr
 ·obtain⟨_,hp,_,_⟩:=(aqx hc.1 (aZ.1 hc.2.1) hc.2.2).1 w hw
  rcases hp.first with⟨e,_⟩|⟨p,m,hl,_,_⟩
  ·exact e.symm
  ·exact absurd (aq5 h p) hl
 ·unfold aH at hw
  rw[if_neg hc]at hw
  cases hw
theorem aq6{s:List ay}{A:List Int}{fr:Int}(h:∀a∈A,qv s a fr=[]):∀w∈within s A fr,w.to=fr:=by
 intro w hw
 obtain⟨y,hy,e⟩:∃y∈mU s A fr,y.to=w.to:=by
  have B:=aq3 hw
  have hm:=(D1 (λx hx=>(E1 x hx).2.1)).1 hw
  rcases E0 (v:=w.to) _ ((mU s A fr).filter λy=>y.to==w.to) rfl (λy hy=>by have:=List.mem_filter.1 hy;exact⟨by simpa using this.2,(E1 y this.1).2.1⟩)with⟨h0,e1⟩|⟨b,e1,hb,B⟩
  ·rw[e1]at hm;cases hm.2
  ·cases hl:(mU s A fr).filter λy=>y.to==w.to with
   |nil=>rw[hl]at e1;cases e1
   |cons y l=>
    have:y∈(mU s A fr).filter λy=>y.to==w.to:=by rw[hl];exact .head _
    obtain⟨h1,h2⟩:=List.mem_filter.1 this
    exact⟨y,h1,by simpa using h2⟩
 obtain⟨a,ha,hy⟩:=List.mem_flatMap.1 hy
 rw[<-e]
 exact ZJ (h a ha) y hy
theorem aq7{s:List ay}{A:List Int}{z:Bool}{fr:Int}(h:∀a∈A,qv s a fr=[]):∀r∈A5 s A z fr,r.rY=true:=by
 have hb:beyond s A z fr=[]:=by
  have hn:∀x,gV s A z fr x=none:=by
   intro x
   cases e:gV s A z fr x with
   |none=>rfl
   |some w=>
    obtain⟨hc,y,hy,_⟩:=OR e
    obtain⟨h1,h2⟩:=xf hy
    have:=ZJ (h x.ae (List.contains_iff_mem.1 hc.2.2.2.1)) y h1
    exact absurd (h2.symm.trans this) hc.2.2.1
  have hc:B8 s A z fr=[]:=by
   unfold B8
   rw[List.filterMap_eq_nil_iff]
   exactλx _=>hn x
  unfold beyond
  rw[hc]
  rfl
 intro r hr
 unfold A5 at hr
 rcases List.mem_append.1 hr with hr|hr
 ·rcases List.mem_append.1 hr with hr|hr
  ·obtain⟨w,hw,_⟩:=List.mem_map.1 hr
   obtain⟨h1,h2⟩:=List.mem_filter.1 hw
   rw[aq6 h w h1]at h2
   simp at h2
  ·rw[hb]at hr;cases hr
 ·obtain⟨k,_,hk⟩:=List.mem_filterMap.1 hr
  unfold A2 at hk
  split at hk
  ·cases hk;rfl
  ·split at hk
   ·cases hk;rfl
   ·cases hk
theorem ZK{x:Self}{a:Int}(hh:x.heard=[])(ha:a∈jF x.net.aA x.id)(hs:jk x.store):∃r∈oI x,dZ r ⟨a,1,x.id,0,0,[],0,false⟩=true∧r.bf=[]:=by
 have ho:vr x.net.aA x.id x.heard a∈fq x:=List.mem_map.2 ⟨a,ha,rfl⟩
 obtain⟨w,hw,hk⟩:=YX (S:=sY x.store x.id (fq x)) ho
 have hn:∀w∈oP x (sY x.store x.id (fq x)),dZ (vr x.net.aA x.id x.heard a) w=true->w.bf=[]:=by
  intro w hw hk
  rcases ZE hw with h|h|h
  ·obtain⟨b,_,rfl⟩:=List.mem_map.1 h
   show yC x.net.aA x.id x.heard b=[]
   rw[hh];rfl
  ·unfold pe at h
   split at h
   ·obtain⟨b,_,h⟩:=List.mem_flatMap.1 h
    exact(O_ h).2.2.2.2.1
   ·cases h
  ·obtain⟨t,_,rfl⟩:=List.mem_map.1 h
   rfl
 obtain⟨r,hr,h1,h2⟩:=aqX (x:=x) (PM x (sY x.store x.id (fq x))) hs hw
 refine⟨r,hr,?_,?_⟩
 ·have:=wD h1 (B9 hk)
  rw[sameKey_iff]at this⊢
  exact this
 ·have h3:=hn w hw hk
  unfold xb B3 at h2
  simp only[bI,decide_eq_true_eq]at h2
  have:=h2.2.1
  rw[h3]at this
  exact List.eq_nil_of_length_eq_zero this
theorem aq8{x:Self}(hh:x.heard=[])(hs:jk x.store){a:Int}(ha:a∈jF x.net.aA x.id):qv (oI x) a x.id=[]:=by
 obtain⟨r,hr,hk,hn⟩:=ZK hh ha hs
 obtain⟨h1,h2⟩:=YN (PK hs) hr hk
 unfold qv
 have h1:0<=iz (oI x) a x.id:=h1
 have h2:gt (oI x) (iz (oI x) a x.id)=r:=h2
 rw[if_neg (by omega),h2,hn]
theorem aq9{x:Self}{es:List eE}(h:iv x es)(hn:pC x.net=true){e:eE}(he:e∈es):e.ae∈jF x.net.aA x.id:=by
 have hA:pg x.net.aA x.id ((x.net.n.toNat:Int)+1) 0 (o_ x.net.aA x.id x.net.n):=PO x.net.aA x.id x.net.n.toNat
 have:vt e∈(o_ x.net.aA x.id x.net.n).map vt:=by rw[<-h];exact List.mem_map_of_mem he
 obtain⟨e',TT,e1⟩:=List.mem_map.1 this
 have hf:=(hA.2 e' TT).1
 have ea:e'.ae=e.ae:=(Prod.mk.inj e1).2
 have hm:=gZ (l:=x.net.aA) (n:=dz (eh x.id e'.node e'.ae) x.net.aA) hf (rz _ _)
 have hj:eh x.id e'.node e'.ae (gt x.net.aA (dz (eh x.id e'.node e'.ae) x.net.aA))=true:=tE _ _ hf
 generalize gt x.net.aA (dz (eh x.id e'.node e'.ae) x.net.aA)=l at hm hj
 have hl:=yw (X5 hn).1 hm
 unfold eh at hj
 simp only[bI,Bool.or_eq_true,beq_iff_eq]at hj
 unfold jF
 refine List.mem_filter.2 ⟨nj.2 (by omega),List.any_eq_true.2 ⟨l,hm,?_⟩⟩
 unfold sX
 simp only[bI,Bool.or_eq_true,beq_iff_eq]
 omega
open Int renaming reduceLE -> af, reduceLT -> ah, reduceEq -> ai, reduceGT -> aj, reduceGE -> ak, reduceAdd -> ap, reduceSub -> aq, reduceMul -> au, reduceNeg -> av
theorem aq_{s:List ay}{n v:Int}(h:0<=n)(h':n<s.length):Prim.ev (.put true 8 4 1) [.l (s.map aC),ii n,ii v]=some (.l ((s.set n.toNat {gt s n with seq:=v}).map aC)):=
 B5 (enc:=aC) (x:={gt s n with seq:=v}) h h' (λ_=>rfl) (by decide) rfl rfl rfl
theorem aq'{s:List ay}{n v:Int}(h:0<=n)(h':n<s.length):Prim.ev (.put true 8 6 1) [.l (s.map aC),ii n,ii v]=some (.l ((s.set n.toNat {gt s n with cost:=v}).map aC)):=
 B5 (enc:=aC) (x:={gt s n with cost:=v}) h h' (λ_=>rfl) (by decide) rfl rfl rfl
theorem ara{s:List eE}{n v:Int}(h:0<=n)(h':n<s.length):Prim.ev (.put true 4 2 1) [.l (s.map bR),ii n,ii v]=some (.l ((s.set n.toNat {gt s n with left:=v}).map bR)):=
 B5 (enc:=bR) (x:={gt s n with left:=v}) h h' (λ_=>rfl) (by decide) rfl rfl rfl
theorem arb{s:List eE}{n:Int}{v:Bool}(h:0<=n)(h':n<s.length):Prim.ev (.put true 4 3 1) [.l (s.map bR),ii n,bb v]=some (.l ((s.set n.toNat {gt s n with both:=v}).map bR)):=
 B5 (enc:=bR) (x:={gt s n with both:=v}) h h' (λ_=>rfl) (by decide) rfl rfl rfl
theorem ZL{s:List ay}(h:bh s){i:Nat}{r:ay}(hr:r.bf.length<=1048576):bh (s.set i r):=by
 intro y hy
 rcases List.mem_or_eq_of_mem_set hy with hy|rfl
 ·exact h y hy
 ·exact hr
def SdP(B:List Int)(o:Option (List T)):Prop:=
 ∃(p:b_) (i' h':Int),o=some [ii p.kind,ii p.BC,ii p.to,ii p.ae,.l (p.heard.map aD),.l (p.list.map aC),.l (B.map fP),ii i',ii h']∧(p.heard.length<=11∧p.list.length<=201∧bh p.list)∧0<=i'∧i'<=B.length
set_option maxHeartbeats 2000000 in
theorem arc{B:List Int}(hB:∀x∈B,tJ x)(hl:B.length<=1048576){i:Int}(h:Int)(hi:0<=i)(aO:i<=B.length)(id:Int)(t4 t5 t6 t7 t8:T)(st:List ay)(es:List eE)(hs:st.length<=150)(hn:bh st)(he:es.length<=18):
  SdP B (Q7 [.l (B.map fP),ii i,ii h,ii id,t4,t5,t6,t7,t8,.l (st.map aC),.l (es.map bR)]):=by
 rw[alS]
 obtain⟨p,i,h,e1,⟨p1,p2,p3⟩,hi,aO⟩:=ZA hB hl h hi aO
 have e2:=ZB p (by omega) (by omega) p3
 have JB:Prim.ev .len [.l (es.map bR)]=some (ii es.length):=xV
 by_cases c0:(es.length:Int)=0
 ·obtain⟨q,i,h,e3,hq,hi,aO⟩:=ZC hB hl h hi aO
  simp(disch:=omega) only[↓pq,↓pj,ps,pz,↓reduceIte,af,ah,ai,aj,ak,ap,aq,au,av,AK,Jn,e1,e2,JB,c0,e3]
  exact⟨q,i,h,rfl,hq,hi,aO⟩
 obtain⟨f,i,h,e3,hi,aO⟩:=Bh hB hl h hi aO 12 (by omega) (by omega)
 cases f with
 |true=>
  obtain⟨q,i,h,e4,hq,hi,aO⟩:=ZC hB hl h hi aO
  simp(disch:=omega) only[↓pq,↓pj,ps,pz,↓reduceIte,af,ah,ai,aj,ak,ap,aq,au,av,AK,Jn,e1,e2,JB,c0,e3,e4]
  exact⟨q,i,h,rfl,hq,hi,aO⟩
 |false=>
  obtain⟨k,i,h,e4,hk,hi,aO⟩:=nx hB hl h hi aO es.length (by omega) (by omega)
  obtain⟨s,i,h,e5,RL,hi,aO⟩:=PB hB hl h hi aO
  have nc:k<es.length:=by omega
  have fin:∀(i h:Int) (s:List ay),0<=i->i<=B.length->s.length<=150->bh s->∃(q:b_) (i' h':Int),
    (if p.kind=3 then some [ii p.kind,ii (gt es k).node,ii id,ii (gt es k).ae,.l (p.heard.map aD),.l ((scope s (gt es k).ae).map aC),.l (B.map fP),ii i,ii h]
     else if p.kind=2 then some [ii p.kind,ii (gt es k).node,ii id,ii (gt es k).ae,.l (p.heard.map aD),.l (((scope s (gt es k).ae).map Cb).map aC),.l (B.map fP),ii i,ii h]
     else some [ii p.kind,ii (gt es k).node,ii id,ii (gt es k).ae,.l (p.heard.map aD),.l (p.list.map aC),.l (B.map fP),ii i,ii h])
    =some [ii q.kind,ii q.BC,ii q.to,ii q.ae,.l (q.heard.map aD),.l (q.list.map aC),.l (B.map fP),ii i',ii h']∧(q.heard.length<=11∧q.list.length<=201∧bh q.list)∧0<=i'∧i'<=B.length:=by
   intro i h s hi aO h1 h2
   by_cases k3:p.kind=3
   ·rw[if_pos k3]
    have:=PF (n:=201) (by omega:s.length<=201) h2 (gt es k).ae
    exact⟨⟨p.kind,(gt es k).node,id,(gt es k).ae,p.heard,scope s (gt es k).ae⟩,i,h,rfl,⟨by show p.heard.length<=11;omega,this⟩,hi,aO⟩
   ·rw[if_neg k3]
    by_cases k2:p.kind=2
    ·rw[if_pos k2]
     have:=PG (n:=201) (by omega:s.length<=201) (gt es k).ae
     exact⟨⟨p.kind,(gt es k).node,id,(gt es k).ae,p.heard,(scope s (gt es k).ae).map Cb⟩,i,h,rfl,⟨by show p.heard.length<=11;omega,this⟩,hi,aO⟩
    ·rw[if_neg k2]
     exact⟨⟨p.kind,(gt es k).node,id,(gt es k).ae,p.heard,p.list⟩,i,h,rfl,⟨by show p.heard.length<=11;omega,by show p.list.length<=201;omega,p3⟩,hi,aO⟩
  obtain⟨g,i,h,e6,hi,aO⟩:=Bh hB hl h hi aO 2 (by omega) (by omega)
  cases g with
  |false=>
   have eS:=HM s (gt es k).ae (by have:=RL.2.1;omega) (E4 RL.1)
   have eH:=PE s (gt es k).ae (by have:=RL.2.1;omega) (E4 RL.1)
   obtain⟨q,i',h',eq,hq,l_,ED⟩:=fin i h s hi aO (by have:=RL.2.1;omega) (E4 RL.1)
   refine⟨q,i',h',?_,hq,l_,ED⟩
   rw[<-eq]
   by_cases k3:p.kind=3
   ·rw[if_pos k3]
    rw[k3]at e2
    simp(disch:=omega) only[↓pq,↓pj,ps,pz,↓reduceIte,af,ah,ai,aj,ak,ap,aq,au,av,AK,Jn,e1,e2,JB,c0,e3,e4,nc,e5,e6,k3,eS,cI]
   ·rw[if_neg k3]
    by_cases k2:p.kind=2
    ·rw[if_pos k2]
     rw[k2]at e2
     simp(disch:=omega) only[↓pq,↓pj,ps,pz,↓reduceIte,af,ah,ai,aj,ak,ap,aq,au,av,AK,Jn,e1,e2,JB,c0,e3,e4,nc,e5,e6,k2,eH,cI]
    ·rw[if_neg k2];simp(disch:=omega) only[↓pq,↓pj,ps,pz,↓reduceIte,af,ah,ai,aj,ak,ap,aq,au,av,AK,Jn,e1,e2,JB,c0,e3,e4,nc,e5,e6,k3,k2,cI]
  |true=>
   have eL:=Jp st (by omega) hn
   simp(disch:=omega) only[↓pq,↓pj,ps,pz,↓reduceIte,af,ah,ai,aj,ak,ap,aq,au,av,AK,Jn,e1,e2,JB,c0,e3,e4,nc,e5,e6,eL,cI]
   refine zy (SdP B) (λm w=>∃(v:Nat) (i h:Int) (s:List ay),w=[ii v,.l (B.map fP),ii i,ii h,.l (s.map aC)]∧v<=st.length∧(0<=i∧i<=B.length)∧(s.length=st.length∧bh s)∧m=st.length-v) ?_ st.length _ rounds ⟨0,i,h,st,rfl,by omega,⟨hi,aO⟩,⟨rfl,hn⟩,rfl⟩ (by unfold rounds;omega)
   rintro m w q ⟨v,i,h,s,rfl,hv,⟨hi,aO⟩,⟨wW,yz⟩,rfl⟩ hq
   by_cases cv:(v:Int)<s.length
   ·obtain⟨a,i,h,e7,ha,hi,aO⟩:=nx hB hl h hi aO 3 (by omega) (by omega)
    obtain⟨b,i,h,e8,hi,aO⟩:=Bh hB hl h hi aO 3 (by omega) (by omega)
    have hgn:=yz _ (gZ (l:=s) (n:=(v:Int)) (by omega) cv)
    obtain⟨sq,PQ⟩:∃sq,sq=IntKind.i64.wrap ((gt s (v:Int)).seq+a):=⟨_,rfl⟩
    have q1:=aq_ (s:=s) (n:=(v:Int)) (v:=sq) (by omega) cv
    rw[Int.toNat_natCast]at q1
    have Gv:=AR (l:=s) (i:=(v:Int)) (j:=(v:Int)) (x:={gt s (v:Int)with seq:=sq}) (by omega) cv (by omega)
    rw[if_pos rfl,Int.toNat_natCast]at Gv
    have sB:(gt (s.set v {gt s (v:Int)with seq:=sq}) (v:Int)).kind=(gt s (v:Int)).kind:=by rw[Gv]
    have ard:(s.set v {gt s (v:Int)with seq:=sq}).length=s.length:=List.length_set ..
    have Er:bh (s.set v {gt s (v:Int)with seq:=sq}):=ZL yz hgn
    generalize s.set v {gt s (v:Int)with seq:=sq}=s1 at q1 Gv sB ard Er
    have PR:(v:Int)<s1.length:=by omega
    cases b with
    |false=>
     simp(disch:=omega) only[↓pq,↓pj,ps,pz,↓reduceIte,af,ah,ai,aj,ak,ap,aq,au,av,AK,cv,e7,e8,<-PQ,q1,cI]
     exact hq (st.length-(v+1)) _ (by omega) ⟨v+1,i,h,s1,by rw[tD],by omega,⟨hi,aO⟩,⟨by omega,Er⟩,rfl⟩
    |true=>
     by_cases ck:(gt s (v:Int)).kind=2
     ·obtain⟨d,i,h,e9,hd,hi,aO⟩:=nx hB hl h hi aO 6 (by omega) (by omega)
      have q2:=aq' (s:=s1) (n:=(v:Int)) (v:=d) (by omega) PR
      rw[Int.toNat_natCast]at q2
      have hg1:=Er _ (gZ (l:=s1) (n:=(v:Int)) (by omega) PR)
      rw[ck]at sB
      have nr:(s1.set v {gt s1 (v:Int)with cost:=d}).length=s1.length:=List.length_set ..
      have RH:bh (s1.set v {gt s1 (v:Int)with cost:=d}):=ZL Er hg1
      generalize s1.set v {gt s1 (v:Int)with cost:=d}=s2 at q2 nr RH
      simp(disch:=omega) only[↓pq,↓pj,ps,pz,↓reduceIte,af,ah,ai,aj,ak,ap,aq,au,av,AK,cv,PR,e7,e8,<-PQ,q1,sB,e9,q2]
      exact hq (st.length-(v+1)) _ (by omega) ⟨v+1,i,h,s2,by rw[tD],by omega,⟨hi,aO⟩,⟨by omega,RH⟩,rfl⟩
     ·have arf:¬(gt s1 (v:Int)).kind=2:=by rw[sB];exact ck
      simp(disch:=omega) only[↓pq,↓pj,ps,pz,↓reduceIte,af,ah,ai,aj,ak,ap,aq,au,av,AK,cv,PR,e7,e8,<-PQ,q1,arf]
      exact hq (st.length-(v+1)) _ (by omega) ⟨v+1,i,h,s1,by rw[tD],by omega,⟨hi,aO⟩,⟨by omega,Er⟩,rfl⟩
   ·have eS:=HM s (gt es k).ae (by omega) yz
    have eH:=PE s (gt es k).ae (by omega) yz
    obtain⟨r,i',h',eq,hr,l_,ED⟩:=fin i h s hi aO (by omega) yz
    refine⟨r,i',h',?_,hr,l_,ED⟩
    rw[<-eq]
    by_cases k3:p.kind=3
    ·rw[if_pos k3]
     simp(disch:=omega) only[↓pq,↓pj,ps,pz,↓reduceIte,af,ah,ai,aj,ak,ap,aq,au,av,AK,cv,k3,eS]
    ·rw[if_neg k3]
     by_cases k2:p.kind=2
     ·rw[if_pos k2]
      simp(disch:=omega) only[↓pq,↓pj,ps,pz,↓reduceIte,af,ah,ai,aj,ak,ap,aq,au,av,AK,cv,k2,eH]
     ·rw[if_neg k2]
      simp(disch:=omega) only[↓pq,↓pj,ps,pz,↓reduceIte,af,ah,ai,aj,ak,ap,aq,au,av,AK,cv,k3,k2]
theorem PT{ls:List bC}{id:Int}{v:Nat}{c:List eE}(h:∀e∈c,e.left=0∧e.both=false)(a:Nat):∀e∈se ls id v c a,e.left=0∧e.both=false:=by
 intro e he
 unfold se at he
 split at he
 ·rcases List.mem_append.1 he with he|he
  ·exact h e he
  ·rw[List.mem_singleton]at he
   rw[he];exact⟨rfl,rfl⟩
 ·exact h e he
theorem ZM(ls:List bC)(id n:Int):∀e∈o_ ls id n,e.left=0∧e.both=false:=by
 unfold o_
 have:∀(l:List Nat) (c:List eE),(∀e∈c,e.left=0∧e.both=false)->∀e∈l.foldl (ET ls id) c,e.left=0∧e.both=false:=by
  intro l
  induction l with
  |nil=>intro c h;exact h
  |cons v l ih=>
   intro c h
   rw[List.foldl_cons]
   exact ih _ (PT (PT (PT h 0) 1) 2)
 exact this _ [] (by simp)
def PU(e:eE):Prop:=(0<=e.left∧e.left<=3)∧(e.both=true->e.left≠0)
theorem ZN{x:Self}{es:List eE}(h:jY x=true)(hA:iv x es)(hL:∀e∈es,PU e):rh ⟨{x with heard:=nh es},es⟩=true:=by
 have hlen:es.length=(o_ x.net.aA x.id x.net.n).length:=by have:=congrArg List.length hA;simpa using this
 unfold rh uL
 simp only[bI,decide_eq_true_eq]
 refine⟨PP h hA,⟨by omega,ca.2 λi hi=>?_⟩,by rw[oF]⟩
 have l_:i<(o_ x.net.aA x.id x.net.n).length:=by omega
 have e1:vt es[i]=vt (o_ x.net.aA x.id x.net.n)[i]:=by
  have h1:(es.map vt)[i]'(by simpa using hi)=((o_ x.net.aA x.id x.net.n).map vt)[i]'(by simpa using l_):=by
   congr 1
  rw[List.getElem_map,List.getElem_map]at h1
  exact h1
 have h1:=(Prod.mk.inj e1).1
 have h2:=(Prod.mk.inj e1).2
 obtain⟨h3,h4⟩:=hL _ (List.getElem_mem hi)
 rw[ed hi,ed l_]
 unfold uK
 simp only[bI,aZ,decide_eq_true_eq,Bool.not_eq_true']
 refine⟨h1,h2,h3,?_⟩
 cases hb:es[i].both with
 |false=>rfl
 |true=>simpa using h4 hb
theorem ZO{x:Self}(h:jY x=true):jY (nw x.net x.id x.aV)=true:=by
 unfold jY at h⊢
 simp only[bI,decide_eq_true_eq,aZ]at h⊢
 exact⟨h.1,h.2.1,h.2.2.1,⟨rfl,by unfold zr;rw[ca];intro k hk;exact absurd hk (by simp[nw])⟩,rfl⟩
def NdP(B:List Int)(o:Option (List T)):Prop:=
 ∃(n:Node) (i' h':Int),o=some [ii n.self.id,ii n.self.aV,ii n.self.net.n,.l (n.self.net.aA.map dm),.l (n.self.net.aN.map dM),.l (n.self.heard.map aD),.l (n.self.store.map aC),.l (n.eW.map bR),.l (B.map fP),ii i',ii h']∧mW 1006 15 n∧0<=i'∧i'<=B.length
set_option maxHeartbeats 1000000 in
theorem arh{B:List Int}(hB:∀x∈B,tJ x)(hl:B.length<=1048576){i:Int}(h:Int)(hi:0<=i)(aO:i<=B.length):NdP B (QZ [.l (B.map fP),ii i,ii h]):=by
 rw[alC]
 obtain⟨x,i,h,e1,⟨hx,jf,⟨hs,wW,PQ,Sx⟩,ht,RH⟩,hi,aO⟩:=aqL hB hl h hi aO
 have h3:(x.store.filter rE).length<=13:=by rw[if_neg (by decide)]at Sx;omega
 obtain⟨hN,hid,avo,jS,xN,_⟩:=qy hx
 obtain⟨n1,CO,EI,hA,hT⟩:=wC hN
 have yz:=E4 hs
 have e2:=ap7 x.net x.id x.aV (by omega) (by omega)
 have h0:=ZO hx
 unfold yF at e2
 rw[if_pos h0]at e2
 obtain⟨y1,y2,y3,y4,y5,y6⟩:=Y' (x:=nw x.net x.id x.aV) (by simp[nw]) (by intro r hr;cases hr) (by simp[nw])
 generalize(pE (nw x.net x.id x.aV)).1=y at e2 y3 y4 y5 y6
 have y3:y.net=x.net:=y3
 have y5:y.id=x.id:=y5
 have y6:y.aV=x.aV:=y6
 simp only[jv,y3,y5,y6,List.cons_append,List.nil_append]at e2
 have yU:=Oh x.net.aA x.id x.net.n (by omega)
 simp(disch:=omega) only[↓pq,↓pj,ps,pz,↓reduceIte,af,ah,ai,aj,ak,ap,aq,au,av,Rv,M_,e1,e2]
 refine zy (NdP B) (λm st=>∃(v:Nat) (i h:Int) (es:List eE),st=[ii v,.l (B.map fP),ii i,ii h,.l (es.map bR)]∧v<=es.length∧(0<=i∧i<=B.length)∧(iv x es∧∀e∈es,PU e)∧m=18-v) ?_ 18 _ rounds ⟨0,i,h,o_ x.net.aA x.id x.net.n,rfl,by omega,⟨hi,aO⟩,⟨rfl,λe he=>?_⟩,rfl⟩ (by unfold rounds;omega)
 ·rintro m st q ⟨v,i,h,es,rfl,hv,⟨hi,aO⟩,⟨hE,hL⟩,rfl⟩ hq
  have hlen:es.length=(o_ x.net.aA x.id x.net.n).length:=by have:=congrArg List.length hE;simpa using this
  by_cases cv:(v:Int)<es.length
  ·obtain⟨d,i,h,e3,hd,hi,aO⟩:=nx hB hl h hi aO 4 (by omega) (by omega)
   have q1:=ara (s:=es) (n:=(v:Int)) (v:=d) (by omega) cv
   rw[Int.toNat_natCast]at q1
   have Gv:=AR (l:=es) (i:=(v:Int)) (j:=(v:Int)) (x:={gt es (v:Int)with left:=d}) (by omega) cv (by omega)
   rw[if_pos rfl,Int.toNat_natCast]at Gv
   have nB:(es.set v {gt es (v:Int)with left:=d}).length=es.length:=List.length_set ..
   have q2:∀b:Bool,Prim.ev (.put true 4 3 1) [.l ((es.set v {gt es (v:Int)with left:=d}).map bR),ii (v:Int),bb b]=some (.l ((es.set v {gt es (v:Int)with left:=d,both:=b}).map bR)):=by
    intro b
    have:=arb (s:=es.set v {gt es (v:Int)with left:=d}) (n:=(v:Int)) (v:=b) (by omega) (by omega)
    rw[Int.toNat_natCast,Gv,List.set_set]at this
    exact this
   have hld:(gt (es.set v {gt es (v:Int)with left:=d}) (v:Int)).left=d:=by rw[Gv]
   have next:∀b:Bool,(b=true->d≠0)->iv x (es.set v {gt es (v:Int)with left:=d,both:=b})∧(∀e∈es.set v {gt es (v:Int)with left:=d,both:=b},PU e)∧(es.set v {gt es (v:Int)with left:=d,both:=b}).length=es.length:=by
    intro b hb
    refine⟨?_,λe he=>?_,List.length_set ..⟩
    ·have sP:v<es.length:=by omega
     unfold iv at hE⊢
     rw[<-hE,List.map_set]
     have:vt {gt es (v:Int)with left:=d,both:=b}=(es.map vt)[v]'(by simpa using sP):=by rw[List.getElem_map,<-ed sP];rfl
     rw[this,List.set_getElem_self]
    ·rcases List.mem_or_eq_of_mem_set he with he|rfl
     ·exact hL e he
     ·exact⟨by show 0<=d∧d<=3;omega,hb⟩
   generalize es.set v {gt es (v:Int)with left:=d}=s1 at q1 q2 nB hld
   have PR:(v:Int)<s1.length:=by omega
   by_cases cd:d>0
   ·obtain⟨f,i,h,e4,hi,aO⟩:=Bh hB hl h hi aO 4 (by omega) (by omega)
    have q3:=q2 (!f)
    obtain⟨k1,k2,k3⟩:=next (!f) (λ_=>by omega)
    generalize es.set v {gt es (v:Int)with left:=d,both:=!f}=s2 at q3 k1 k2 k3
    simp(disch:=omega) only[↓pq,↓pj,ps,pz,↓reduceIte,af,ah,ai,aj,ak,ap,aq,au,av,Rv,cv,PR,e3,q1,hld,cd,e4,q3]
    exact hq (18-(v+1)) _ (by omega) ⟨v+1,i,h,s2,by rw[tD],by omega,⟨hi,aO⟩,⟨k1,k2⟩,rfl⟩
   ·have q3:=q2 false
    obtain⟨k1,k2,k3⟩:=next false (λhc=>by cases hc)
    generalize es.set v {gt es (v:Int)with left:=d,both:=false}=s2 at q3 k1 k2 k3
    simp(disch:=omega) only[↓pq,↓pj,ps,pz,↓reduceIte,af,ah,ai,aj,ak,ap,aq,au,av,Rv,cv,PR,e3,q1,hld,cd,q3]
    exact hq (18-(v+1)) _ (by omega) ⟨v+1,i,h,s2,by rw[tD],by omega,⟨hi,aO⟩,⟨k1,k2⟩,rfl⟩
  ·have hH:=anU es (by omega)
   have EF:=PP hx hE
   have uW:=HK es
   have ez:=ZN hx hE hL
   obtain⟨f,i,h,e3,hi,aO⟩:=Bh hB hl h hi aO 3 (by omega) (by omega)
   cases f with
   |true=>
    simp(disch:=omega) only[↓pq,↓pj,ps,pz,↓reduceIte,af,ah,ai,aj,ak,ap,aq,au,av,Rv,cv,hH,e3]
    exact⟨⟨{x with heard:=nh es},es⟩,i,h,rfl,⟨ez,jf,λr hr=>by have:=PQ r hr;omega,by show(x.store.filter rE).length<=15;omega,ht⟩,hi,aO⟩
   |false=>
    have nk:(∀r∈({x with heard:=nh es}:Self).store,r.seq<=5)∧(0:Int)<=5∧(5:Int)<=90000:=⟨PQ,by decide,by decide⟩
    have F_:(({x with heard:=nh es}:Self).store.filter rE).length<=13∧13<=22:=⟨h3,by decide⟩
    have r1:=PN EF jf nk F_ ht
    have r2:=IF EF jf nk F_ ht
    have eR:=Y_ {x with heard:=nh es} (by show x.net.aA.length<=_;omega) (by show x.net.aN.length<=_;omega) (by show(nh es).length<=_;omega) (by show x.store.length<=_;omega) yz
    rw[r1]at eR
    simp only[iK,List.cons_append,List.nil_append]at eR
    simp(disch:=omega) only[↓pq,↓pj,ps,pz,↓reduceIte,af,ah,ai,aj,ak,ap,aq,au,av,Rv,cv,hH,e3,eR,cI]
    refine⟨⟨{x with heard:=nh es,store:=oI {x with heard:=nh es}},es⟩,i,h,rfl,⟨?_,jf,λr hr=>?_,r2.2.2,ht⟩,hi,aO⟩
    ·have:=ez
     unfold rh at this⊢
     simp only[bI]at this⊢
     exact⟨Pw EF (r2.ok (by decide)),this.2⟩
    ·rcases(yH (RK _ _)).1 hr with hr|⟨hr,_⟩
     ·have:=(IE EF jf nk hr).1;omega
     ·have:=PQ r hr;omega
 ·have:=ZM _ _ _ e he
  exact⟨by omega,λhb=>by rw[this.2]at hb;cases hb⟩
def ZP(o:Option (List T)):Prop:=
 ∃(n:Node) (p:b_),o=some [ii n.self.id,ii n.self.aV,ii n.self.net.n,.l (n.self.net.aA.map dm),.l (n.self.net.aN.map dM),.l (n.self.heard.map aD),.l (n.self.store.map aC),.l (n.eW.map bR),ii p.kind,ii p.BC,ii p.to,ii p.ae,.l (p.heard.map aD),.l (p.list.map aC)]∧mW 1006 15 n∧p.heard.length<=11∧p.list.length<=201∧bh p.list
theorem arj{B:List Int}(hB:∀x∈B,tJ x)(hl:B.length<=1048576):ZP (Q9 [.l (B.map fP)]):=by
 rw[alV]
 have hn:Prim.ev .len [.l (B.map fP)]=some (ii B.length):=xV
 simp(disch:=omega) only[↓pq,↓pj,ps,pz,↓reduceIte,af,ah,ai,aj,ak,ap,aq,au,av,W6,kq_,hn]
 refine aql hB hl (qX:=ZP) ?_ ?_ _
 ·intro q h k c1 c2
  obtain⟨m,a,c,d,e1,e2,e3,e4,e5,e6,e7⟩:=aqt hB hl h c1
  exact⟨d,by simp(disch:=omega) only[↓pq,↓pj,ps,pz,↓reduceIte,af,ah,ai,aj,ak,ap,aq,au,av,W6,hn,c1,c2,e1,e2,e3,e4,e5,e6,e7]⟩
 ·intro q h k hk
  obtain⟨n,i,h',e,hx,hi,aO⟩:=arh hB hl h (i:=0) (by omega) (by omega)
  obtain⟨hs,_,yU⟩:=Po hx.ok
  have cC:=(qy hs).2.2.2.2.2
  obtain⟨p,i,h',e2,hp,hi,aO⟩:=arc hB hl h' (i:=i) hi aO n.self.id (ii n.self.aV) (ii n.self.net.n) (.l (n.self.net.aA.map dm)) (.l (n.self.net.aN.map dM)) (.l (n.self.heard.map aD)) n.self.store n.eW (Pu cC) (E4 cC) yU
  by_cases c1:(k:Int)<B.length
  ·have c2:¬(k:Int)<4000:=by omega
   simp(disch:=omega) only[↓pq,↓pj,ps,pz,↓reduceIte,af,ah,ai,aj,ak,ap,aq,au,av,W6,hn,c1,c2,e,e2]
   exact⟨n,p,rfl,hx,hp⟩
  ·simp(disch:=omega) only[↓pq,↓pj,ps,pz,↓reduceIte,af,ah,ai,aj,ak,ap,aq,au,av,W6,hn,c1,e,e2]
   exact⟨n,p,rfl,hx,hp⟩
def ZQ:List Ty:=[.sl Pp]
def ph(n:Node):Nat->Node
 |0=>n
 |k+1=>Bg (ph n k)
theorem IG{n:Node}(h:mW 1006 15 n):∀k:Nat,k<=3->mW (1006+1001*(k:Int)) (15+2*k) (ph n k)
 |0,_=>h
 |k+1,hk=>by
  have:=((IG h k (by omega)).tick (by omega) (by omega)).1
  rw[show(1006+1001*((k+1:Nat):Int))=1006+1001*(k:Int)+1001 by omega,show 15+2*(k+1)=15+2*k+2 by omega]
  exact this
theorem mW.size{Q:Int}{k:Nat}{n:Node}(h:mW Q k n):n.self.net.aA.length<=12∧n.self.net.aN.length<=2∧n.self.heard.length<=36∧n.self.store.length<=150∧bh n.self.store∧n.eW.length<=18:=by
 obtain⟨hs,_,he⟩:=Po h.ok
 have hN:=wC (qy hs).1
 have cC:=(qy hs).2.2.2.2.2
 have hh:nh n.eW=n.self.heard:=by
  have:=h.ok
  unfold rh at this
  simp only[bI]at this
  exact oF.1 this.2.2
 have:=HK n.eW
 rw[hh]at this
 exact⟨hN.2.1,h.aN,by omega,Pu cC,E4 cC,he⟩
theorem ark{Q:Int}{k:Nat}{n:Node}(h:mW Q k n):∃l:List b_,Je (jv n)=some (jv (Bg n)++[.l (l.map j4)]):=by
 obtain⟨h1,h2,h3,h4,h5,h6⟩:=h.size
 have:=aqf n (by omega) (by omega) (by omega) (by omega) h5 (by omega)
 unfold Ek at this
 rw[if_pos h.ok]at this
 exact⟨_,this⟩
theorem arl{x:Self}(h:jY x=true)(ht:x.net.aN.length<=2):∃y:Self,yF x.net x.id 1=(⟨y,o_ x.net.aA x.id x.net.n⟩,true)∧mW 1001 2 ⟨y,o_ x.net.aA x.id x.net.n⟩∧y.heard=[]∧y.net=x.net∧y.id=x.id:=by
 have h0:jY (nw x.net x.id 1)=true:=by
  have:=ZO h
  unfold jY at this⊢
  simp only[bI,decide_eq_true_eq,aZ]at this⊢
  exact⟨this.1,this.2.1,⟨by show(0:Int)<=1;decide,by show(1:Int)<=90;decide⟩,this.2.2.2⟩
 have hq:(∀r∈(nw x.net x.id 1).store,r.seq<=0)∧(0:Int)<=0∧(0:Int)<=90000:=⟨(by intro r hr;cases hr),by decide,by decide⟩
 have h3:((nw x.net x.id 1).store.filter rE).length<=0∧0<=22:=⟨by simp[nw],by decide⟩
 have lR:(nw x.net x.id 1).aV<=1:=by show(1:Int)<=1;decide
 have r1:=PN h0 lR hq h3 ht
 have r2:=IF h0 lR hq h3 ht
 have hz:=ZM x.net.aA x.id x.net.n
 have ez:=ZN (x:=nw x.net x.id 1) (es:=o_ x.net.aA x.id x.net.n) h0 rfl λe he=>⟨by have:=(hz e he).1;omega,λhb=>by rw[(hz e he).2]at hb;cases hb⟩
 rw[ZI λe he=>(hz e he).2]at ez
 refine⟨{nw x.net x.id 1 with store:=oI (nw x.net x.id 1)},by unfold yF;rw[if_pos h0,r1],⟨?_,lR,λr hr=>?_,r2.2.2,ht⟩,rfl,rfl,rfl⟩
 ·unfold rh at ez⊢
  simp only[bI]at ez⊢
  exact⟨Pw h0 (r2.ok (by decide)),ez.2⟩
 ·rcases(yH (RK _ _)).1 hr with hr|⟨hr,_⟩
  ·exact(IE h0 lR hq hr).1
  ·cases hr
theorem arm(ts:List T)(h:iY ZQ ts):G7 ts=some [.c (.bool true)]:=by
 obtain⟨B,rfl,hB⟩:=aqu ts h
 rw[anG]
 by_cases hb:(B.length:Int)>1048576
 ·simp(disch:=omega) only[↓pq,↓pj,ps,pz,↓reduceIte,af,ah,ai,aj,ak,ap,aq,au,av,HE,HF,ES,HG,Zm,hb,decide_true]
 obtain⟨n,p,e,hn,_⟩:=arj hB (by omega)
 simp(disch:=omega) only[↓pq,↓pj,ps,pz,↓reduceIte,af,ah,ai,aj,ak,ap,aq,au,av,HE,HF,ES,HG,Zm,hb,decide_false,cI,e]
 refine AO (λi=>ii (i:Int)::(jv (ph n i)++[.l (n.self.net.aA.map dm),.l (n.self.net.aN.map dM),.l (n.self.heard.map aD),.l (n.self.store.map aC),.l (n.eW.map bR)])) 3 rfl (by unfold rounds;omega) ?_ ?_
 ·intro i hi q
  have hP:=IG hn i (by omega)
  obtain⟨l,el⟩:=ark hP
  have ED:(i:Int)<3:=by omega
  show ES rounds LY Ay LX Je DA q _=q (ii ((i+1:Nat):Int)::(jv (Bg (ph n i))++_))
  generalize Bg (ph n i)=m at el
  generalize ph n i=m0 at el
  simp only[jv,List.cons_append,List.nil_append]at el⊢
  simp(disch:=omega) only[↓pq,↓pj,ps,pz,↓reduceIte,af,ah,ai,aj,ak,ap,aq,au,av,HE,HF,ES,ED,el]
 ·intro q
  have wI:=IG hn 2 (by omega)
  have hP:=IG hn 3 (by omega)
  have oT:=(wI.tick (by omega) (by omega)).2
  have hA:iv (ph n 3).self (ph n 3).eW:=ZH hP.ok
  have JD:(ph n 3).eW=n.eW.map λe=>iM (iM (iM e)):=by
   show((n.eW.map iM).map iM).map iM=_
   simp[List.map_map,Function.comp_def]
  have Kl:∀e∈(ph n 3).eW,e.both=false:=by
   intro e he
   rw[JD]at he
   obtain⟨e0,he0,rfl⟩:=List.mem_map.1 he
   obtain⟨j,hj,rfl⟩:=List.mem_iff_getElem.1 he0
   have:=Zc hn.ok hj
   rw[ed hj]at this
   exact aq4 this
  have hh0:nh (ph n 3).eW=[]:=ZI Kl
  have oT:(ph n 3).self={(ph n 2).self with heard:=nh (ph n 3).eW,store:=oI {(ph n 2).self with heard:=nh (ph n 3).eW}}:=oT
  rw[hh0]at oT
  obtain⟨s1,s2,s3,s4,s5,s6⟩:=hP.size
  obtain⟨hs,_,_⟩:=Po hP.ok
  have hN:=(qy hs).1
  have cC:=(qy hs).2.2.2.2.2
  have nr:=B4 (qy (Po wI.ok).1).2.2.2.2.2
  have own:∀a∈jF (ph n 3).self.net.aA (ph n 3).self.id,∃r∈(ph n 3).self.store,dZ r ⟨a,1,(ph n 3).self.id,0,0,[],0,false⟩=true∧r.bf=[]:=by
   rw[oT]
   intro a ha
   exact ZK (x:={(ph n 2).self with heard:=[]}) rfl ha nr
  have bf:∀a∈jF (ph n 3).self.net.aA (ph n 3).self.id,qv (ph n 3).self.store a (ph n 3).self.id=[]:=by
   rw[oT]
   intro a ha
   exact aq8 (x:={(ph n 2).self with heard:=[]}) rfl nr ha
  have PV:(ph n 3).self.heard=[]:=by rw[oT]
  have zA:∀r∈O2 (ph n 3),r.rY=true:=by
   unfold O2
   rw[if_pos hP.ok]
   exact aq7 bf
  have ae:=λe he=>aq9 hA hN (e:=e) he
  obtain⟨y,ey,hy,hy1,hy2,hy3⟩:=arl hs s2
  clear oT JD wI nr Kl hh0
  generalize ph n 3=m at*
  obtain⟨x,es⟩:=m
  simp only at*
  have a1:=HL x.id x.aV x.net.n x.net.aA x.net.aN x.heard x.store es (by omega) (by omega) (by omega) (by omega) s5 (by omega)
  rw[show(⟨⟨x.id,x.aV,⟨x.net.n,x.net.aA,x.net.aN⟩,x.heard,x.store⟩,es⟩:Node)=⟨x,es⟩ from rfl,hP.ok]at a1
  have a2:=ao_ x.id x.aV x.net.n x.net.aA x.net.aN x.heard x.store es (by omega) (by omega) (by omega) (by omega) s5 (by omega)
  rw[show(⟨⟨x.id,x.aV,⟨x.net.n,x.net.aA,x.net.aN⟩,x.heard,x.store⟩,es⟩:Node)=⟨x,es⟩ from rfl]at a2
  have a3:=ap6 x.net x.id 1 (by omega) (by omega)
  rw[ey]at a3
  obtain⟨z1,z2,z3,z4,z5,z6⟩:=hy.size
  simp only at z1 z2 z3 z4 z5 z6
  have a4:=HL y.id y.aV y.net.n y.net.aA y.net.aN y.heard y.store (o_ x.net.aA x.id x.net.n) (by omega) (by omega) (by omega) (by omega) z5 (by omega)
  rw[show(⟨⟨y.id,y.aV,⟨y.net.n,y.net.aA,y.net.aN⟩,y.heard,y.store⟩,o_ x.net.aA x.id x.net.n⟩:Node)=⟨y,o_ x.net.aA x.id x.net.n⟩ from rfl,hy.ok]at a4
  have ZX:(O2 ⟨x,es⟩).length<=1048576:=by
   unfold O2
   split
   ·have:=ao8 x.store (jF x.net.aA x.id) (yx x.net.aA x.id) x.id
    exact Nat.le_trans this (by decide)
   ·simp
  generalize O2 ⟨x,es⟩=L at a2 zA ZX
  have xg:=B4 cC
  have vJ:Prim.ev .len [.l (x.heard.map aD)]=some (ii 0):=by rw[PV];rfl
  have hly:Prim.ev .len [.l (y.heard.map aD)]=some (ii 0):=by rw[hy1];rfl
  simp only[jv,List.cons_append,List.nil_append]at a3⊢
  simp(disch:=omega) only[↓pq,↓pj,ps,pz,↓reduceIte,af,ah,ai,aj,ak,ap,aq,au,av,HE,HF,ES,a1,vJ]
  refine AO (λi=>[bb false,ii (i:Int)]) es.length rfl (dh (by omega)) ?_ ?_
  ·intro i hi q
   have hm:=gZ (l:=es) (n:=(i:Int)) (by omega) hi
   obtain⟨r,hr,hk,oH⟩:=own _ (ae _ hm)
   have h0:=Zt hr hk
   have eF:=aqy x.store ⟨(gt es (i:Int)).ae,1,x.id,0,0,[],0,false⟩ (ii 0) (.l []) (ii 0) (bb false) (by omega) s5
   rw[if_neg (by omega),Ps xg hr hk]at eF
   simp only[aC,oH,List.map_nil,List.cons_append,List.nil_append]at eF
   have zZ:Prim.ev .len [.l ([]:List (List T))]=some (ii 0):=rfl
   simp(disch:=omega) only[↓pq,↓pj,ps,pz,↓reduceIte,af,ah,ai,aj,ak,ap,aq,au,av,HE,HF,ES,hi,eF,zZ]
  ·intro q
   have hz:¬((es.length:Int)<es.length):=by omega
   simp(disch:=omega) only[↓pq,↓pj,ps,pz,↓reduceIte,af,ah,ai,aj,ak,ap,aq,au,av,HE,HF,ES,hz,a2]
   refine AO (λi=>[bb false,ii (i:Int)]) L.length rfl (dh ZX) ?_ ?_
   ·intro i hi q
    have hm:=zA _ (gZ (l:=L) (n:=(i:Int)) (by omega) hi)
    simp(disch:=omega) only[↓pq,↓pj,ps,pz,↓reduceIte,af,ah,ai,aj,ak,ap,aq,au,av,HE,HF,ES,hi,hm]
   ·intro q
    have hz:¬((L.length:Int)<L.length):=by omega
    simp(disch:=omega) only[↓pq,↓pj,ps,pz,↓reduceIte,af,ah,ai,aj,ak,ap,aq,au,av,HE,HF,ES,hz,a3,a4,hly,decide_true]
    rfl
end Go.Proofs.YtjimmglpkndemaaGreatC
