/- Packets read from texts, by the reference. Conditions: none. -/
import Derived.Test.YtbhplkilhknciaaXSGb
namespace Go.Proofs.YtbhplkilhknciaaC
open Int renaming reduceLE -> aq, reduceLT -> au, reduceEq -> av, reduceGT -> aw, reduceGE -> ax, reduceAdd -> ay, reduceSub -> az, reduceMul -> aA, reduceNeg -> aB
set_option linter.unusedVariables false
set_option linter.unusedSimpArgs false
def IW(l:List UInt8)(a:Nat)(b:Bool):List UInt8×Nat×Bool:=yo l (cB l a b).2.1 (cB l a b).2.2 (cB l a b).1
def yr(l:List UInt8):Nat->Nat->Bool->List ah->List ah×Nat×Bool
 |0,a,b,acc=>(acc,a,b)
 |n+1,a,b,acc=>if b=true then(acc,a,b)else yr l n (IW l a b).2.1 (IW l a b).2.2 (acc++[(gF (IW l a b).1).getD uy])
theorem QB(l:List UInt8)(n a:Nat)(acc:List ah):yr l n a true acc=(acc,a,true):=by cases n<;>rfl
theorem afS{l:List UInt8}{a:Nat}(b:Bool)(n:Nat)(h:a<=l.length):(yo l a b n).2.1<=l.length∧(yo l a b n).1.length<=l.length:=by
 unfold yo
 split
 ·exact⟨h,Nat.zero_le _⟩
 ·split
  ·exact⟨h,Nat.zero_le _⟩
  ·rename_i c
   refine⟨by show a+n<=_;omega,?_⟩
   show(List.take _ _).length<=_
   rw[List.length_take,List.length_drop];omega
theorem QC{l:List UInt8}:∀(q:List ah) (a:Nat) (acc:List ah) (r:List UInt8),l.drop a=jF q++r->(∀x∈q,dz x=true)->yr l q.length a false acc=(acc++q,a+(jF q).length,false)
 | [],a,acc,r,h,_=>by rw[List.append_nil];rfl
 |x::q,a,acc,r,h,hq=>by
  have hx:=hq x (.head _)
  have u0:=yp (zj hx)
  have e:jF (x::q)=bV (fW x).length++(fW x++jF q):=by unfold jF;rw[List.flatMap_cons];simp only[List.append_assoc]
  rw[e,List.append_assoc,List.append_assoc]at h
  obtain⟨h1,h2⟩:=BU (by omega) h
  have n4:l.drop (a+(bV (fW x).length).length+(fW x).length)=jF q++r:=by rw[<-List.drop_drop,h2,List.drop_left]
  have ht:IW l a false=(fW x,a+(bV (fW x).length).length+(fW x).length,false):=by
   unfold IW yo
   rw[h1]
   simp only
   have hlen:=congrArg List.length h2
   simp only[List.length_drop,List.length_append]at hlen
   have hp:0<(fW x).length:=by unfold fW;simp
   rw[if_neg Bool.false_ne_true,if_neg (by omega),h2,List.take_left]
  have h5:=QC q _ (acc++[x]) r n4 λy hy=>hq y (.tail _ hy)
  have hl:a+(jF (x::q)).length=a+(bV (fW x).length).length+(fW x).length+(jF q).length:=by rw[e];simp only[List.length_append];omega
  rw[hl,List.length_cons,yr,if_neg Bool.false_ne_true,ht]
  simp only
  rw[G0 hx]
  simp only[Option.getD_some]
  rw[h5,List.append_assoc];rfl
def qR(l:List UInt8)(b0:Bool):fX:=
 let s1:=bW l 0 b0
 let s2:=bW l s1.2.1 s1.2.2
 let s3:=bW l s2.2.1 s2.2.2
 let s4:=bW l s3.2.1 s3.2.2
 let s5:=cB l s4.2.1 s4.2.2
 let z:=pX l (min s5.1 50) s5.2.1 s5.2.2 []
 let s6:=cB l z.2.1 z.2.2
 let y:=yr l (min s6.1 200) s6.2.1 s6.2.2 []
 ⟨s1.1,s2.1,s3.1,s4.1,z.1,y.1,y.2.1,y.2.2⟩
def yu(t:List UInt8)(c:fX):Option aM:=if c.b=true then none else if nZ c.wq=true then(if gb (jG c.wq)=t then some c.wq else none)else none
theorem afT(t:List UInt8):yu t (qR [] true)=none:=by
 have h:(qR [] true).b=true:=by
  unfold qR
  simp only[afy,PT,IV,QB]
 unfold yu
 rw[h,if_pos rfl]
theorem afU(o:List UInt8):yu (gb o) (qR o false)=zk o:=by
 cases hr:zk o with
 |none=>
  unfold yu
  split
  ·rfl
  ·split
   ·rename_i c2
    split
    ·rename_i c3
     have:=Qq c2
     rw[GQ c3,hr]at this
     cases this
    ·rfl
   ·rfl
 |some p=>
  obtain⟨hp,hl⟩:=Qr hr
  have h:=IR hp
  have d0:o.drop 0=aR p.kind::aR p.fS::aR p.to::aR p.aj::(bV p.heard.length++(im p.heard++(bV p.list.length++(jF p.list++[])))):=by rw[hl,List.append_nil];rfl
  obtain⟨e1,d1⟩:=tL d0
  obtain⟨e2,d2⟩:=tL d1
  obtain⟨e3,d3⟩:=tL d2
  obtain⟨e4,d4⟩:=tL d3
  obtain⟨e5,d5⟩:=BU (by have:=h.heard.1;omega) d4
  obtain⟨e6,d6⟩:=G9 _ _ [] _ d5 h.heard.2
  obtain⟨e7,d7⟩:=BU (by have:=h.list.1;omega) d6
  have e8:=QC _ _ [] _ d7 h.list.2
  have m1:min p.heard.length 50=p.heard.length:=by have:=h.heard.1;omega
  have m2:min p.list.length 200=p.list.length:=by have:=h.list.1;omega
  obtain⟨c,Cv⟩:∃c,qR o false=⟨(aR p.kind).toNat,(aR p.fS).toNat,(aR p.to).toNat,(aR p.aj).toNat,p.heard,p.list,c,false⟩:=by
   refine⟨(qR o false).a,?_⟩
   unfold qR
   simp only[e1,e2,e3,e4,e5,m1,e6,e7,m2,List.nil_append,e8]
  have qE:(fX.wq ⟨(aR p.kind).toNat,(aR p.fS).toNat,(aR p.to).toNat,(aR p.aj).toNat,p.heard,p.list,c,false⟩)=p:=by
   unfold fX.wq
   simp only[wo h.kind.1 h.kind.2,wo h.fS.1 h.fS.2,wo h.to.1 h.to.2,wo h.aj.1 h.aj.2]
  unfold yu
  rw[Cv,qE,if_neg Bool.false_ne_true,if_pos hp,if_pos (by rw[hl])]
theorem QD{t l:List UInt8}{n i a:Nat}{b:Bool}{acc:List ah}{heard:List Int}(v1 v2 v3 v4:Nat)(hh:heard.length<=1048576)(hz:acc.length<=1048576)(hn:∀r∈acc,r.aQ.length<=6)(h:¬(i:Int)<n∨¬(i:Int)<200∨b=true)(q:ai):
  nR o9 qI pD nq (st t) (ii v1) (ii v2) (ii v3) (ii v4) (.l (heard.map bu)) (ii n) q [ii i,st l,ii a,bb b,.l (acc.map bq)]=some (iM (yu t ⟨v1,v2,v3,v4,heard,acc,a,b⟩)):=by
 have key:(∀(K:T->Option (List T)) (o:Option (List T)),K (bb false)=o->(Yl (ii i) (ii n) λcw=>aC cw (Yl (ii i) (ii 200) λcR=>aC cR (Yt (bb b) λdR=>K dR) (K (bb false))) (K (bb false)))=o):=by
  intro K o hK
  by_cases c1:(i:Int)<n
  ·by_cases c2:(i:Int)<200
   ·rcases h with h|h|h
    ·exact absurd c1 h
    ·exact absurd c2 h
    ·subst h
     simp(disch:=omega) only[↓pq,↓pj,ps,pz,↓reduceIte,aq,au,av,aw,ax,ay,az,aA,aB,nR,nS,c1,c2];exact hK
   ·simp(disch:=omega) only[↓pq,↓pj,ps,pz,↓reduceIte,aq,au,av,aw,ax,ay,az,aA,aB,nR,nS,c1,c2];exact hK
  ·simp(disch:=omega) only[↓pq,↓pj,ps,pz,↓reduceIte,aq,au,av,aw,ax,ay,az,aA,aB,nR,nS,c1];exact hK
 unfold nR
 rw[CO,tg]
 refine key _ _ ?_
 unfold yu
 simp only
 have e0:=P8 ⟨v1,v2,v3,v4,heard,acc⟩ hh hz (λr hr=>by have:=hn r hr;omega)
 unfold ib B0 at e0
 simp only at e0
 have er:(fX.wq ⟨v1,v2,v3,v4,heard,acc,a,b⟩)=⟨v1,v2,v3,v4,heard,acc⟩:=rfl
 rw[er]
 cases hr:nZ ⟨(v1:Int),v2,v3,v4,heard,acc⟩with
 |false=>
  rw[hr,if_neg Bool.false_ne_true]at e0
  cases b with
  |true=>simp(disch:=omega) only[↓pq,↓pj,ps,pz,↓reduceIte,aq,au,av,aw,ax,ay,az,aA,aB,nR,nS,e0,du];rfl
  |false=>simp(disch:=omega) only[↓pq,↓pj,ps,pz,↓reduceIte,aq,au,av,aw,ax,ay,az,aA,aB,nR,nS,e0,du];rfl
 |true=>
  rw[hr,if_pos rfl]at e0
  cases b with
  |true=>simp(disch:=omega) only[↓pq,↓pj,ps,pz,↓reduceIte,aq,au,av,aw,ax,ay,az,aA,aB,nR,nS,e0,du];rfl
  |false=>
   have vF:=Pb (gb (jG ⟨(v1:Int),v2,v3,v4,heard,acc⟩)) t
   by_cases he:gb (jG ⟨(v1:Int),v2,v3,v4,heard,acc⟩)=t
   ·rw[decide_eq_true he]at vF
    rw[if_neg Bool.false_ne_true,if_pos rfl,if_pos he]
    simp(disch:=omega) only[↓pq,↓pj,ps,pz,↓reduceIte,aq,au,av,aw,ax,ay,az,aA,aB,nR,nS,e0,vF,Bool.not_true,du];rfl
   ·rw[decide_eq_false he]at vF
    rw[if_neg Bool.false_ne_true,if_pos rfl,if_neg he]
    simp(disch:=omega) only[↓pq,↓pj,ps,pz,↓reduceIte,aq,au,av,aw,ax,ay,az,aA,aB,nR,nS,e0,vF,Bool.not_false,du];rfl
theorem QE{t l:List UInt8}(hl:l.length<=20000){heard:List Int}(hh:heard.length<=1048576)(v1 v2 v3 v4 n:Nat):∀(m i a:Nat) (b:Bool) (acc:List ah) (R:Nat),i+m=min n 200->a<=l.length->acc.length<=i->(∀r∈acc,r.aQ.length<=6)->m<R->
  iter (nR o9 qI pD nq (st t) (ii v1) (ii v2) (ii v3) (ii v4) (.l (heard.map bu)) (ii n)) R [ii i,st l,ii a,bb b,.l (acc.map bq)]=some (iM (yu t ⟨v1,v2,v3,v4,heard,(yr l m a b acc).1,(yr l m a b acc).2.1,(yr l m a b acc).2.2⟩))
 |_,_,_,_,_,0,_,_,_,_,h=>by omega
 |0,i,a,b,acc,R+1,hi,ha,hz,hn,_=>QD v1 v2 v3 v4 hh (by omega) hn (by omega) _
 |m+1,i,a,true,acc,R+1,hi,ha,hz,hn,_=>by
  rw[QB]
  exact QD v1 v2 v3 v4 hh (by omega) hn (.inr (.inr rfl)) _
 |m+1,i,a,false,acc,R+1,hi,ha,hz,hn,hR=>by
  have gx:l.length<=1048576:=by omega
  rw[yr,if_neg Bool.false_ne_true]
  unfold IW
  have l1:=ux (l:=l) false ha
  have e1:=tM (b:=false) gx ha
  generalize cB l a false=s1 at l1 e1⊢
  obtain⟨x1,a1,b1⟩:=s1
  simp only at l1 e1⊢
  have l2:=afS (l:=l) b1 x1 l1.1
  have e2:=PU (b:=b1) gx l1.1 l1.2.2
  generalize yo l a1 b1 x1=s2 at l2 e2⊢
  obtain⟨s,a2,b2⟩:=s2
  simp only at l2 e2⊢
  have e3:=afF (l:=s) (by omega)
  rw[P9]at e3
  have hg:=G8 s
  generalize(gF s).getD uy=r at e3 hg⊢
  generalize(gF s).isSome=f at e3
  have ih:=QE (t:=t) hl hh v1 v2 v3 v4 n m (i+1) a2 b2 (acc++[r]) R (by omega) l2.1 (by rw[List.length_append,List.length_singleton];omega) (λx hx=>by
   rcases List.mem_append.1 hx with hx|hx
   ·exact hn x hx
   ·rw[List.mem_singleton.1 hx];exact hg) (by omega)
  rw[<-ih]
  rw[show∀x,iter (nR o9 qI pD nq (st t) (ii v1) (ii v2) (ii v3) (ii v4) (.l (heard.map bu)) (ii n)) (R+1) x=nR o9 qI pD nq (st t) (ii v1) (ii v2) (ii v3) (ii v4) (.l (heard.map bu)) (ii n) (iter (nR o9 qI pD nq (st t) (ii v1) (ii v2) (ii v3) (ii v4) (.l (heard.map bu)) (ii n)) R) x fromλ_=>rfl]
  generalize iter (nR o9 qI pD nq (st t) (ii v1) (ii v2) (ii v3) (ii v4) (.l (heard.map bu)) (ii n)) R=K
  have c1:(i:Int)<n:=by omega
  have c2:(i:Int)<200:=by omega
  have lt:=Qv r
  have ap:=Xu (l:=acc) (x:=r) (by omega)
  unfold nR
  simp(disch:=omega) only[↓pq,↓pj,ps,pz,↓reduceIte,aq,au,av,aw,ax,ay,az,aA,aB,nR,nS,c1,c2,e1,e2,e3,lt,ap,du,not_false_eq_true]
theorem afV{t l:List UInt8}(hl:l.length<=20000)(v1 v2 v3 v4 n:Nat):∀(m i a:Nat) (b:Bool) (acc:List Int) (R:Nat),i+m=min n 50->a<=l.length->acc.length<=i->m<R->
  iter (nS rounds o9 qI pE pD nq (st t) (ii v1) (ii v2) (ii v3) (ii v4) (ii n)) R [ii i,st l,ii a,bb b,.l (acc.map bu)]=
   some (iM (yu t (let z:=pX l m a b acc;let s6:=cB l z.2.1 z.2.2;let y:=yr l (min s6.1 200) s6.2.1 s6.2.2 [];⟨v1,v2,v3,v4,z.1,y.1,y.2.1,y.2.2⟩))):=by
 have gx:l.length<=1048576:=by omega
 have tail:∀(i a:Nat) (b:Bool) (acc:List Int) (q:ai),a<=l.length->acc.length<=1048576->(¬(i:Int)<n∨¬(i:Int)<50∨b=true)->
   nS rounds o9 qI pE pD nq (st t) (ii v1) (ii v2) (ii v3) (ii v4) (ii n) q [ii i,st l,ii a,bb b,.l (acc.map bu)]=
    some (iM (yu t (let s6:=cB l a b;let y:=yr l (min s6.1 200) s6.2.1 s6.2.2 [];⟨v1,v2,v3,v4,acc,y.1,y.2.1,y.2.2⟩))):=by
  intro i a b acc q ha hz h
  have key:(∀(K:T->Option (List T)) (o:Option (List T)),K (bb false)=o->(Yl (ii i) (ii n) λcw=>aC cw (Yl (ii i) (ii 50) λcR=>aC cR (Yt (bb b) λdR=>K dR) (K (bb false))) (K (bb false)))=o):=by
   intro K o hK
   by_cases c1:(i:Int)<n
   ·by_cases c2:(i:Int)<50
    ·rcases h with h|h|h
     ·exact absurd c1 h
     ·exact absurd c2 h
     ·subst h
      simp(disch:=omega) only[↓pq,↓pj,ps,pz,↓reduceIte,aq,au,av,aw,ax,ay,az,aA,aB,nR,nS,c1,c2];exact hK
    ·simp(disch:=omega) only[↓pq,↓pj,ps,pz,↓reduceIte,aq,au,av,aw,ax,ay,az,aA,aB,nR,nS,c1,c2];exact hK
   ·simp(disch:=omega) only[↓pq,↓pj,ps,pz,↓reduceIte,aq,au,av,aw,ax,ay,az,aA,aB,nR,nS,c1];exact hK
  unfold nS
  rw[CO,tg]
  refine key _ _ ?_
  have l6:=ux (l:=l) b ha
  have e6:=tM (b:=b) gx ha
  simp only
  generalize cB l a b=s6 at l6 e6⊢
  obtain⟨v6,a6,b6⟩:=s6
  simp only at l6 e6⊢
  have iV:=QE (t:=t) hl hz v1 v2 v3 v4 v6 (min v6 200) 0 a6 b6 [] rounds (by omega) l6.1 (by simp) (by simp) (by unfold rounds;omega)
  rw[<-iV]
  simp(disch:=omega) only[↓pq,↓pj,ps,pz,↓reduceIte,aq,au,av,aw,ax,ay,az,aA,aB,nR,nS,e6,du]
  rfl
 intro m
 induction m with
 |zero=>
  intro i a b acc R hi ha hz hR
  obtain⟨R,rfl⟩:∃R',R=R'+1:=⟨R-1,by omega⟩
  exact tail i a b acc _ ha (by omega) (by omega)
 |succ m ihm=>
  intro i a b acc R hi ha hz hR
  obtain⟨R,rfl⟩:∃R',R=R'+1:=⟨R-1,by omega⟩
  cases b with
  |true=>
   rw[IV]
   exact tail i a true acc _ ha (by omega) (.inr (.inr rfl))
  |false=>
   rw[pX,if_neg Bool.false_ne_true]
   have l1:=pi (l:=l) false ha
   have e1:=oX (b:=false) gx ha
   generalize bW l a false=s1 at l1 e1⊢
   obtain⟨x1,a1,b1⟩:=s1
   simp only at l1 e1⊢
   have ih:=ihm (i+1) a1 b1 (acc++[(x1:Int)]) R (by omega) l1.1 (by rw[List.length_append,List.length_singleton];omega) (by omega)
   simp only at ih
   rw[<-ih]
   rw[show∀x,iter (nS rounds o9 qI pE pD nq (st t) (ii v1) (ii v2) (ii v3) (ii v4) (ii n)) (R+1) x=nS rounds o9 qI pE pD nq (st t) (ii v1) (ii v2) (ii v3) (ii v4) (ii n) (iter (nS rounds o9 qI pE pD nq (st t) (ii v1) (ii v2) (ii v3) (ii v4) (ii n)) R) x fromλ_=>rfl]
   generalize iter (nS rounds o9 qI pE pD nq (st t) (ii v1) (ii v2) (ii v3) (ii v4) (ii n)) R=K
   have c1:(i:Int)<n:=by omega
   have c2:(i:Int)<50:=by omega
   have ap:=Nj (l:=acc) (m:=[(x1:Int)]) (by rw[List.length_singleton];omega)
   have lt:Prim.ev (.lit 1 [true]) [ii (x1:Int)]=some (.l ([(x1:Int)].map bu)):=by simp[Prim.ev,mQ,kY,cF,bu]
   unfold nS
   simp(disch:=omega) only[↓pq,↓pj,ps,pz,↓reduceIte,aq,au,av,aw,ax,ay,az,aA,aB,nR,nS,c1,c2,e1,lt,ap,du,not_false_eq_true]
theorem sRP{t o:List UInt8}{ok:Bool}(ho:o.length<=20000)(e0:xN [st t]=some [st o,bb ok]):Bl [st t]=some (iM (yu t (qR o (!ok)))):=by
 rw[acV]
 have gx:o.length<=1048576:=by omega
 unfold qR
 have l1:=pi (l:=o) (!ok) (Nat.zero_le _)
 have e1:=oX (a:=0) (b:=!ok) gx (Nat.zero_le _)
 generalize bW o 0 (!ok)=s1 at l1 e1⊢
 obtain⟨v1,a1,b1⟩:=s1
 simp only at l1 e1⊢
 have l2:=pi (l:=o) b1 l1.1
 have e2:=oX (b:=b1) gx l1.1
 generalize bW o a1 b1=s2 at l2 e2⊢
 obtain⟨v2,a2,b2⟩:=s2
 simp only at l2 e2⊢
 have l3:=pi (l:=o) b2 l2.1
 have e3:=oX (b:=b2) gx l2.1
 generalize bW o a2 b2=s3 at l3 e3⊢
 obtain⟨v3,a3,b3⟩:=s3
 simp only at l3 e3⊢
 have l4:=pi (l:=o) b3 l3.1
 have e4:=oX (b:=b3) gx l3.1
 generalize bW o a3 b3=s4 at l4 e4⊢
 obtain⟨v4,a4,b4⟩:=s4
 simp only at l4 e4⊢
 have l5:=ux (l:=o) b4 l4.1
 have e5:=tM (b:=b4) gx l4.1
 generalize cB o a4 b4=s5 at l5 e5⊢
 obtain⟨v5,a5,b5⟩:=s5
 simp only at l5 e5⊢
 rw[show((0:Nat):Int)=0 from rfl]at e1
 have iV:=afV (t:=t) ho v1 v2 v3 v4 v5 (min v5 50) 0 a5 b5 [] rounds (by omega) l5.1 (by simp) (by unfold rounds;omega)
 simp only at iV
 rw[<-iV]
 cases ok with
 |true=>
  rw[Bool.not_true]at e1
  simp(disch:=omega) only[↓pq,↓pj,ps,pz,↓reduceIte,aq,au,av,aw,ax,ay,az,aA,aB,nR,nS,R6,e0,Bool.not_true,e1,e2,e3,e4,e5]
  rfl
 |false=>
  rw[Bool.not_false]at e1
  simp(disch:=omega) only[↓pq,↓pj,ps,pz,↓reduceIte,aq,au,av,aw,ax,ay,az,aA,aB,nR,nS,R6,e0,Bool.not_false,e1,e2,e3,e4,e5]
  rfl
theorem QF(t:List UInt8)(ht:t.length<=1048576):(∃o,o.length<=20000∧t=gb o∧Bl [st t]=some (iM (zk o)))∨((∀o,o.length<=20000->t≠gb o)∧Bl [st t]=some (iM none)):=by
 rcases PI t ht with⟨o,ho,he,e0⟩|⟨w6,e0⟩
 ·refine .inl ⟨o,ho,he,?_⟩
  rw[sRP ho e0,Bool.not_true,he,afU]
 ·refine .inr ⟨w6,?_⟩
  rw[sRP (Nat.zero_le _) e0,Bool.not_false,afT]
def PkR(B:List Int)(o:Option (List T)):Prop:=
 ∃(p:aM) (i' h':Int),o=some [ii p.kind,ii p.fS,ii p.to,ii p.aj,.l (p.heard.map bu),.l (p.list.map bq),.l (B.map fD),ii i',ii h']∧nZ p=true∧0<=i'∧i'<=B.length
theorem afW{l:List Int}(h:l.Pairwise (· < ·))(h':∀x∈l,1<=x∧x<=6):ny l=true:=by
 unfold ny gn
 rw[cm]
 intro i hi
 rw[gL hi]
 have h1:=h' l[i] (List.getElem_mem hi)
 simp only[bd,aG,Bool.or_eq_true,Bool.not_eq_true',decide_eq_false_iff_not]
 refine⟨h1,?_⟩
 by_cases c:(i:Int)>0
 ·right
  obtain⟨j,rfl⟩:∃j,i=j+1:=⟨i-1,by omega⟩
  rw[show((j+1:Nat):Int)-1=(j:Int) by omega,gL (show j<l.length by omega)]
  have:=List.pairwise_iff_getElem.1 h j (j+1) (by omega) hi (by omega)
  omega
 ·left;exact c
theorem afX{B:List Int}(hB:∀x∈B,pe x)(hl:B.length<=1048576){i:Int}(h:Int)(hi:0<=i)(bw:i<=B.length):PkR B (yY [.l (B.map fD),ii i,ii h]):=by
 rw[NR]
 obtain⟨k,i,h,e1,hk,hi,bw⟩:=nW hB hl h hi bw 3 (by omega) (by omega)
 obtain⟨f,i,h,e2,hf,hi,bw⟩:=nW hB hl h hi bw 4 (by omega) (by omega)
 obtain⟨a,i,h,e3,ha,hi,bw⟩:=nW hB hl h hi bw 3 (by omega) (by omega)
 have jx:(1+f).tmod 5=1+f:=by rw[Int.tmod_eq_emod_of_nonneg (by omega)];omega
 by_cases c1:1+k=1
 ·simp(disch:=omega) only[↓pq,↓pj,ps,pz,↓reduceIte,aq,au,av,aw,ax,ay,az,aA,aB,vq,CW,e1,e2,e3,c1]
  refine Gv (PkR B) (λm st=>∃(v:Nat) (i h:Int) (l:List Int),st=[ii ((v:Int)+1),.l (B.map fD),ii i,ii h,.l (l.map bu)]∧v<=5∧(0<=i∧i<=B.length)∧(l.Pairwise (· < ·)∧(∀x∈l,1<=x∧x<=v)∧l.length<=v)∧m=5-v) ?_ 5 [ii 1,.l (B.map fD),ii i,ii h,.l []] rounds ⟨0,i,h,[],rfl,by omega,⟨hi,bw⟩,by simp,rfl⟩ (by unfold rounds;omega)
  rintro m st q ⟨v,i,h,l,rfl,hv,⟨hi,bw⟩,vi,rfl⟩ hq
  have hl5:=vi.2.2
  by_cases c2:(v:Int)+1<=5
  ·obtain⟨b,i,h,e5,hi,bw⟩:=Sd hB hl h hi bw 2 (by omega) (by omega)
   cases b with
   |false=>
    simp(disch:=omega) only[↓pq,↓pj,ps,pz,↓reduceIte,aq,au,av,aw,ax,ay,az,aA,aB,vq,c2,e5,du]
    exact hq (5-(v+1)) _ (by omega) ⟨v+1,i,h,l,by rw[yW],by omega,⟨hi,bw⟩,⟨vi.1,λx hx=>by have:=vi.2.1 x hx;omega,by have:=vi.2.2;omega⟩,rfl⟩
   |true=>
    simp(disch:=omega) only[↓pq,↓pj,ps,pz,↓reduceIte,aq,au,av,aw,ax,ay,az,aA,aB,vq,c2,e5]
    exact hq (5-(v+1)) _ (by omega) ⟨v+1,i,h,l++[(v:Int)+1],by rw[yW],by omega,⟨hi,bw⟩,⟨List.pairwise_append.2 ⟨vi.1,List.pairwise_singleton ..,λx hx y hy=>by have:=vi.2.1 x hx;rw[List.mem_singleton.1 hy];omega⟩,λx hx=>by
     rcases List.mem_append.1 hx with hx|hx
     ·have:=vi.2.1 x hx;omega
     ·rw[List.mem_singleton.1 hx];omega,by have:=vi.2.2;simp;omega⟩,rfl⟩
  ·simp(disch:=omega) only[↓pq,↓pj,ps,pz,↓reduceIte,aq,au,av,aw,ax,ay,az,aA,aB,vq,c2]
   exact⟨⟨1,1+f,(1+f).tmod 5+1,a,l,[]⟩,i,h,rfl,G7 (by show(1:Int)<=1∧(1:Int)<=3;omega) (by show 1<=1+f∧1+f<=6;omega) (by show 1<=(1+f).tmod 5+1∧(1+f).tmod 5+1<=6;omega) (by show 1+f≠(1+f).tmod 5+1;omega) (by show 0<=a∧a<=2;omega) (afW vi.1 λx hx=>by have:=vi.2.1 x hx;omega) (by rw[if_pos rfl];rfl) rfl (λr hr=>by cases hr),hi,bw⟩
 ·obtain⟨s,i,h,e4,hs,hi,bw⟩:=OT hB hl h hi bw
  have qu:=hs.2.1
  have GH:=OP hs.1
  have eS:=F2 s a (by omega) GH
  have sc:=P5 (C0 hs.1) (λr hr=>Br hs.1 hr) (OO hs.1) a
  have eH:=OY s a (by omega) GH
  by_cases c2:1+k=2
  ·simp(disch:=omega) only[↓pq,↓pj,ps,pz,↓reduceIte,aq,au,av,aw,ax,ay,az,aA,aB,vq,CW,e1,e2,e3,c2,e4,eS,eH]
   exact⟨⟨2,1+f,(1+f).tmod 5+1,a,[],(scope s a).map yg⟩,i,h,rfl,G7 (by show(1:Int)<=2∧(2:Int)<=3;omega) (by show 1<=1+f∧1+f<=6;omega) (by show 1<=(1+f).tmod 5+1∧(1+f).tmod 5+1<=6;omega) (by show 1+f≠(1+f).tmod 5+1;omega) (by show 0<=a∧a<=2;omega) rfl (by rw[if_neg (show¬(2:Int)=1 by decide)];rfl) (P6 hs.1 a).1 (λr hr=>(P6 hs.1 a).2 r hr),hi,bw⟩
  ·simp(disch:=omega) only[↓pq,↓pj,ps,pz,↓reduceIte,aq,au,av,aw,ax,ay,az,aA,aB,vq,CW,e1,e2,e3,c1,c2,e4,eS]
   exact⟨⟨1+k,1+f,(1+f).tmod 5+1,a,[],scope s a⟩,i,h,rfl,G7 (by show 1<=1+k∧1+k<=3;omega) (by show 1<=1+f∧1+f<=6;omega) (by show 1<=(1+f).tmod 5+1∧(1+f).tmod 5+1<=6;omega) (by show 1+f≠(1+f).tmod 5+1;omega) (by show 0<=a∧a<=2;omega) rfl (by rw[if_neg (show¬(1+k)=1 from c1)];rfl) sc.1 (λr hr=>⟨sc.2 r hr,λhk=>absurd hk c2⟩),hi,bw⟩
theorem afY{B:List Int}(hB:∀x∈B,pe x)(hl:B.length<=1048576):∃p:aM,HR [.l (B.map fD)]=some (ib p)∧nZ p=true:=by
 rw[aaF]
 have hn:Prim.ev .len [.l (B.map fD)]=some (ii B.length):=Fl
 simp(disch:=omega) only[↓pq,↓pj,ps,pz,↓reduceIte,aq,au,av,aw,ax,ay,az,aA,aB,NS,vw_,hn]
 refine Gw hB hl (mA:=λo=>∃p:aM,o=some (ib p)∧nZ p=true) ?_ ?_ _
 ·intro q h k c1 c2
  obtain⟨m,a,c,d,e1,e2,e3,e4,e5,e6,e7⟩:=Gx hB hl h c1
  exact⟨d,by simp(disch:=omega) only[↓pq,↓pj,ps,pz,↓reduceIte,aq,au,av,aw,ax,ay,az,aA,aB,NS,hn,c1,c2,e1,e2,e3,e4,e5,e6,e7]⟩
 ·intro q h k hk
  obtain⟨p,i,h',e,hp,hi,bw⟩:=afX hB hl h (i:=0) (by omega) (by omega)
  refine⟨p,?_,hp⟩
  by_cases c1:(k:Int)<B.length
  ·have c2:¬(k:Int)<4000:=by omega
   simp(disch:=omega) only[↓pq,↓pj,ps,pz,↓reduceIte,aq,au,av,aw,ax,ay,az,aA,aB,NS,hn,c1,c2,e]
   rfl
  ·simp(disch:=omega) only[↓pq,↓pj,ps,pz,↓reduceIte,aq,au,av,aw,ax,ay,az,aA,aB,NS,hn,c1,e]
   rfl
def TxP(B:List Int)(n:Nat)(o:Option (List T)):Prop:=∃(l:List UInt8) (i' h':Int),o=some [st l,.l (B.map fD),ii i',ii h']∧l.length<=n∧0<=i'∧i'<=B.length
theorem QG{B:List Int}(hB:∀x∈B,pe x)(hl:B.length<=1048576){i:Int}(h:Int)(hi:0<=i)(bw:i<=B.length):TxP B 1 (Fq [.l (B.map fD),ii i,ii h,ii 1]):=by
 rw[acA]
 obtain⟨x,i1,h1,e,hx,o5,G_⟩:=IH hB hl h hi bw
 have cv:=rk (n:=x) hx.1 (by omega)
 have ap:=IL (l:=[]) (b:=aR x) (by simp)
 have l0:([]:List UInt8)++[aR x]=[aR x]:=rfl
 rw[l0]at ap
 simp(disch:=omega) only[↓pq,↓pj,ps,pz,↓reduceIte,aq,au,av,aw,ax,ay,az,aA,aB,Bm,kH_,Ph]
 have hr:rounds=(rounds-2)+1+1:=by unfold rounds;omega
 rw[hr]
 generalize rounds-2=R
 have u:∀n y,iter (Bm rY (ii 1)) (n+1) y=Bm rY (ii 1) (iter (Bm rY (ii 1)) n) y:=λ_ _=>rfl
 rw[u]
 have s2:iter (Bm rY (ii 1)) (R+1) [.l ([aR x].map eB),ii 1,.l (B.map fD),ii i1,ii h1]=some [st [aR x],.l (B.map fD),ii i1,ii h1]:=by
  rw[u]
  have sb:=zh [aR x]
  simp(disch:=omega) only[↓pq,↓pj,ps,pz,↓reduceIte,aq,au,av,aw,ax,ay,az,aA,aB,Bm,sb,fV]
 generalize iter (Bm rY (ii 1)) (R+1)=K at s2⊢
 refine⟨[aR x],i1,h1,?_,by simp,o5,G_⟩
 have ap2:=afg (b:=aR x)
 simp(disch:=omega) only[↓pq,↓pj,ps,pz,↓reduceIte,aq,au,av,aw,ax,ay,az,aA,aB,Bm,e,cv,BI,ap2,s2]
theorem QH{B:List Int}(hB:∀x∈B,pe x)(hl:B.length<=1048576){i:Int}(h:Int)(hi:0<=i)(bw:i<=B.length)(s:List UInt8)(hs:s.length<=30000):TxP B (s.length+1) (Ij [.l (B.map fD),ii i,ii h,st s]):=by
 rw[acC]
 obtain⟨d,i,h,e1,hd,hi,bw⟩:=nW hB hl h hi bw 12 (by omega) (by omega)
 by_cases c0:d=0
 ·obtain⟨x,i,h,e2,hx,hi,bw⟩:=QG hB hl h hi bw
  have ha:=mi (a:=s) (b:=x) (by omega)
  refine⟨s++x,i,h,?_,by rw[List.length_append];omega,hi,bw⟩
  simp(disch:=omega) only[↓pq,↓pj,ps,pz,↓reduceIte,aq,au,av,aw,ax,ay,az,aA,aB,Bn,e1,c0,e2,ha,fV]
 by_cases c1:d=1
 ·obtain⟨x,i,h,e2,hx,hi,bw⟩:=nW hB hl h hi bw ((s.length:Int)+1) (by omega) (by omega)
  obtain⟨n,rfl⟩:∃n:Nat,x=n:=⟨x.toNat,by omega⟩
  have hc:=BG (l:=s) (b:=n) (by omega)
  refine⟨s.take n,i,h,?_,by rw[List.length_take];omega,hi,bw⟩
  simp(disch:=omega) only[↓pq,↓pj,ps,pz,↓reduceIte,aq,au,av,aw,ax,ay,az,aA,aB,Bn,e1,c0,c1,fZ,e2,hc,fV]
 have same:∃(l:List UInt8) (i' h':Int),some [st s,T.l (B.map fD),ii i,ii h]=some [st l,.l (B.map fD),ii i',ii h']∧l.length<=s.length+1∧0<=i'∧i'<=B.length:=⟨s,i,h,rfl,by omega,hi,bw⟩
 have mid:0<s.length->∃(l:List UInt8) (i' h':Int) (n:Int) (i1 h1:Int) (x:List UInt8),(0<=n∧n<s.length)∧j8 [.l (B.map fD),ii i,ii h,ii s.length]=some [ii n,.l (B.map fD),ii i1,ii h1]∧Prim.ev (.fg false true) [st s,ii n]=some (st (s.take n.toNat))∧Fq [.l (B.map fD),ii i1,ii h1,ii 1]=some [st x,.l (B.map fD),ii i',ii h']∧
   Prim.ev (.bin .add) [st (s.take n.toNat),st x]=some (st (s.take n.toNat++x))∧Prim.ev (.fg true false) [st s,ii (n+1)]=some (st (s.drop (n.toNat+1)))∧Prim.ev (.bin .add) [st (s.take n.toNat++x),st (s.drop (n.toNat+1))]=some (st l)∧l.length<=s.length+1∧0<=i'∧i'<=B.length:=by
  intro hp
  obtain⟨n,i1,h1,e2,hn,o5,G_⟩:=nW hB hl h hi bw (s.length:Int) (by omega) (by omega)
  obtain⟨m,rfl⟩:∃m:Nat,n=m:=⟨n.toNat,by omega⟩
  obtain⟨x,i2,h2,e3,hx,iU,afZ⟩:=QG hB hl h1 o5 G_
  have a1:=BG (l:=s) (b:=m) (by omega)
  have a2:=Pc (l:=s) (a:=m+1) (by omega)
  have mX:(s.take m++x).length<=m+1:=by rw[List.length_append,List.length_take];omega
  have a3:=mi (a:=s.take m) (b:=x) (by rw[List.length_append]at mX;omega)
  have qX:(s.drop (m+1)).length=s.length-(m+1):=List.length_drop ..
  have a4:=mi (a:=s.take m++x) (b:=s.drop (m+1)) (by omega)
  refine⟨_,i2,h2,m,i1,h1,x,hn,e2,a1,e3,a3,a2,a4,?_,iU,afZ⟩
  rw[List.length_append];omega
 by_cases Sp:d=2∨d=3
 ·by_cases c4:(s.length:Int)>0
  ·obtain⟨l,i',h',n,i1,h1,x,mn,m1,m2,m3,m4,m5,m6,m7,m8,m9⟩:=mid (by omega)
   refine⟨l,i',h',?_,m7,m8,m9⟩
   rcases Sp with c2|c2
   ·simp(disch:=omega) only[↓pq,↓pj,ps,pz,↓reduceIte,aq,au,av,aw,ax,ay,az,aA,aB,Bn,e1,c2,fZ,c4,m1,m2,m3,m4,m5,m6,fV]
   ·simp(disch:=omega) only[↓pq,↓pj,ps,pz,↓reduceIte,aq,au,av,aw,ax,ay,az,aA,aB,Bn,e1,c2,fZ,c4,m1,m2,m3,m4,m5,m6,fV]
  ·rcases Sp with c2|c2
   ·simp(disch:=omega) only[↓pq,↓pj,ps,pz,↓reduceIte,aq,au,av,aw,ax,ay,az,aA,aB,Bn,e1,c2,fZ,c4,fV];exact same
   ·simp(disch:=omega) only[↓pq,↓pj,ps,pz,↓reduceIte,aq,au,av,aw,ax,ay,az,aA,aB,Bn,e1,c2,fZ,c4,fV];exact same
 ·have c2:¬d=2:=λhh=>Sp (.inl hh)
  have c3:¬d=3:=λhh=>Sp (.inr hh)
  simp(disch:=omega) only[↓pq,↓pj,ps,pz,↓reduceIte,aq,au,av,aw,ax,ay,az,aA,aB,Bn,e1,c0,c1,c2,c3,fV];exact same
def QI:List Ty:=[.sl Gu]
theorem af0{B:List Int}(hB:∀x∈B,pe x)(hl:B.length<=1048576):∃t:List UInt8,Ik [.l (B.map fD)]=some [st t]∧t.length<=1048576:=by
 rw[acH]
 have hn:Prim.ev .len [.l (B.map fD)]=some (ii B.length):=Fl
 simp(disch:=omega) only[↓pq,↓pj,ps,pz,↓reduceIte,aq,au,av,aw,ax,ay,az,aA,aB,xQ,vF_,hn]
 refine Gw hB hl (mA:=λo=>∃t:List UInt8,o=some [st t]∧t.length<=1048576) ?_ ?_ _
 ·intro q h k c1 c2
  obtain⟨m,a,c,d,e1,e2,e3,e4,e5,e6,e7⟩:=Gx hB hl h c1
  exact⟨d,by simp(disch:=omega) only[↓pq,↓pj,ps,pz,↓reduceIte,aq,au,av,aw,ax,ay,az,aA,aB,xQ,hn,c1,c2,e1,e2,e3,e4,e5,e6,e7]⟩
 ·intro q h k hk
  obtain⟨p,i,h',e,⟨z1,z2,z3⟩,hi,bw⟩:=aeY hB hl h (i:=0) (by omega) (by omega)
  have IX:=P8 p (by omega) (by omega) z3
  unfold ib at IX
  obtain⟨s,ok,eT,hs⟩:∃(s:List UInt8) (ok:Bool),o9 [ii p.kind,ii p.fS,ii p.to,ii p.aj,.l (p.heard.map bu),.l (p.list.map bq)]=some [st s,bb ok]∧s.length<=10004:=by
   unfold B0 at IX
   cases hp:nZ p with
   |true=>
    rw[hp,if_pos rfl]at IX
    exact⟨_,_,IX,by rw[uv];have:=BZ (IR hp);omega⟩
   |false=>
    rw[hp,if_neg Bool.false_ne_true]at IX
    exact⟨_,_,IX,Nat.zero_le _⟩
  obtain⟨d,i,h',e2,hd,hi,bw⟩:=nW hB hl h' hi bw 6 (by omega) (by omega)
  by_cases d0:d=0
  ·obtain⟨t,i,h',e3,ht,hi,bw⟩:=QH hB hl h' hi bw s (by omega)
   refine⟨t,?_,by omega⟩
   by_cases c1:(k:Int)<B.length
   ·have c2:¬(k:Int)<4000:=by omega
    simp(disch:=omega) only[↓pq,↓pj,ps,pz,↓reduceIte,aq,au,av,aw,ax,ay,az,aA,aB,xQ,hn,c1,c2,e,eT,e2,d0,e3,fV]
   ·simp(disch:=omega) only[↓pq,↓pj,ps,pz,↓reduceIte,aq,au,av,aw,ax,ay,az,aA,aB,xQ,hn,c1,e,eT,e2,d0,e3,fV]
  by_cases d1:d=1
  ·rcases PI s (by omega)with⟨o,ho,C3,e3⟩|⟨_,e3⟩
   ·have hol:=congrArg List.length C3
    rw[uv]at hol
    obtain⟨t,i,h',e4,ht,hi,bw⟩:=QH hB hl h' hi bw o (by omega)
    have e5:=PH t (by omega)
    rw[if_pos (by omega)]at e5
    refine⟨gb t,?_,by rw[uv];omega⟩
    by_cases c1:(k:Int)<B.length
    ·have c2:¬(k:Int)<4000:=by omega
     simp(disch:=omega) only[↓pq,↓pj,ps,pz,↓reduceIte,aq,au,av,aw,ax,ay,az,aA,aB,xQ,hn,c1,c2,e,eT,e2,d0,d1,e3,e4,e5,fV]
    ·simp(disch:=omega) only[↓pq,↓pj,ps,pz,↓reduceIte,aq,au,av,aw,ax,ay,az,aA,aB,xQ,hn,c1,e,eT,e2,d0,d1,e3,e4,e5,fV]
   ·refine⟨s,?_,by omega⟩
    by_cases c1:(k:Int)<B.length
    ·have c2:¬(k:Int)<4000:=by omega
     simp(disch:=omega) only[↓pq,↓pj,ps,pz,↓reduceIte,aq,au,av,aw,ax,ay,az,aA,aB,xQ,hn,c1,c2,e,eT,e2,d0,d1,e3,fV,du]
    ·simp(disch:=omega) only[↓pq,↓pj,ps,pz,↓reduceIte,aq,au,av,aw,ax,ay,az,aA,aB,xQ,hn,c1,e,eT,e2,d0,d1,e3,fV,du]
  ·refine⟨s,?_,by omega⟩
   by_cases c1:(k:Int)<B.length
   ·have c2:¬(k:Int)<4000:=by omega
    simp(disch:=omega) only[↓pq,↓pj,ps,pz,↓reduceIte,aq,au,av,aw,ax,ay,az,aA,aB,xQ,hn,c1,c2,e,eT,e2,d0,d1,fV]
   ·simp(disch:=omega) only[↓pq,↓pj,ps,pz,↓reduceIte,aq,au,av,aw,ax,ay,az,aA,aB,xQ,hn,c1,e,eT,e2,d0,d1,fV]
theorem af1(a:List Int)(h:a.length<=1048576):H7 [.l (a.map bu),.l (a.map bu)]=some [bb true]:=by
 rw[abJ]
 simp(disch:=omega) only[↓pq,↓pj,ps,pz,↓reduceIte,aq,au,av,aw,ax,ay,az,aA,aB,FJ]
 refine ID (λi=>[bb false,ii (i:Int)]) a.length rfl (mh h) ?_ ?_
 ·intro i hi q
  simp(disch:=omega) only[↓pq,↓pj,ps,pz,↓reduceIte,aq,au,av,aw,ax,ay,az,aA,aB,jb_,hi]
 ·intro q
  have hz:¬((a.length:Int)<a.length):=by omega
  simp(disch:=omega) only[↓pq,↓pj,ps,pz,↓reduceIte,aq,au,av,aw,ax,ay,az,aA,aB,jb_,hz]
theorem af2(r:ah)(h:r.aQ.length<=1048576):vo [ii r.aj,ii r.kind,ii r.owner,ii r.key,ii r.seq,.l (r.aQ.map dD),ii r.cost,bb r.gM,ii r.aj,ii r.kind,ii r.owner,ii r.key,ii r.seq,.l (r.aQ.map dD),ii r.cost,bb r.gM]=some [bb true]:=by
 rw[abL]
 have hf:Prim.ev (.bb .neq) [bb r.gM,bb r.gM]=some (bb false):=by cases r.gM<;>rfl
 simp(disch:=omega) only[↓pq,↓pj,ps,pz,↓reduceIte,aq,au,av,aw,ax,ay,az,aA,aB,FL,hf,du]
 refine ID (λi=>[bb false,ii (i:Int)]) r.aQ.length rfl (mh h) ?_ ?_
 ·intro i hi q
  have he:Prim.ev (.oY [1,1]) [ii (gt r.aQ (i:Int)).to,ii (gt r.aQ (i:Int)).cost,ii (gt r.aQ (i:Int)).to,ii (gt r.aQ (i:Int)).cost]=some (bb true):=by
   simp[Prim.ev,sF,C7]
  simp(disch:=omega) only[↓pq,↓pj,ps,pz,↓reduceIte,aq,au,av,aw,ax,ay,az,aA,aB,FK,hi,he]
 ·intro q
  have hz:¬((r.aQ.length:Int)<r.aQ.length):=by omega
  simp(disch:=omega) only[↓pq,↓pj,ps,pz,↓reduceIte,aq,au,av,aw,ax,ay,az,aA,aB,FK,hz]
theorem af3(a:List ah)(h:a.length<=1048576)(hn:cK a):H8 [.l (a.map bq),.l (a.map bq)]=some [bb true]:=by
 rw[abP]
 simp(disch:=omega) only[↓pq,↓pj,ps,pz,↓reduceIte,aq,au,av,aw,ax,ay,az,aA,aB,kB_]
 refine ID (λi=>[bb false,ii (i:Int)]) a.length rfl (mh h) ?_ ?_
 ·intro i hi q
  have he:=af2 (gt a (i:Int)) (hn.gt (by omega) hi)
  simp(disch:=omega) only[↓pq,↓pj,ps,pz,↓reduceIte,aq,au,av,aw,ax,ay,az,aA,aB,qo_,hi,he]
 ·intro q
  have hz:¬((a.length:Int)<a.length):=by omega
  simp(disch:=omega) only[↓pq,↓pj,ps,pz,↓reduceIte,aq,au,av,aw,ax,ay,az,aA,aB,qo_,hz]
theorem af4(a b:UInt8):Prim.ev (.bin .xor) [uB a,uB b]=some (uB (a^^^b)):=by
 have h2:∀x:UInt8,BitVec.ofInt 8 (x.toNat:Int)=x.toBitVec:=λx=>by
  apply BitVec.eq_of_toNat_eq
  have:=x.toNat_lt
  simp
 have bI:=(a^^^b).toNat_lt
 have hn:((a^^^b).toNat)=(a.toBitVec^^^b.toBitVec).toNat:=rfl
 simp only[Prim.ev,T.val,Option.bind_some,fh,uB,if_true]
 show some (T.c (.int .u8 (IntKind.u8.wrap (((BitVec.ofInt 8 (a.toNat:Int)^^^BitVec.ofInt 8 (b.toNat:Int)).toNat:Nat):Int))))=_
 rw[h2,h2,<-hn]
 have hw:∀n:Nat,n<256->IntKind.u8.wrap (n:Int)=n:=λn h=>by simp[IntKind.wrap,IntKind.bits,IntKind.signed];omega
 rw[hw _ (by omega)]
theorem af5{a b:UInt8}(h:b≠0):a^^^b≠a:=by
 intro he
 apply h
 have:=congrArg (λx=>a^^^x) he
 simpa[<-UInt8.xor_assoc]using this
set_option maxRecDepth 100000 in
theorem af6(ts:List T)(h0:gu QI ts):RA ts=some [.c (.bool true)]:=by
 obtain⟨B,rfl,hB⟩:=aeB ts h0
 rw[acY]
 unfold kE_
 rw[aeC,M1,Fm]
 by_cases hb:(B.length:Int)>1048576
 ·rw[if_pos (by simpa using hb),M0];rfl
 ·rw[if_neg (by simpa using hb)]
  have hl:B.length<=1048576:=by omega
  obtain⟨p,eR,hp⟩:=afY hB hl
  obtain⟨y1,y2,y3⟩:=G6 hp
  have eT:=qr_ p (by omega) (by omega) y3
  have eO:=j1_ p (by omega) (by omega) y3
  unfold ib at eR eT eO
  unfold B0 at eT
  rw[hp]at eO eT
  rw[if_pos rfl]at eT
  have vU:=BZ (IR hp)
  have qu:=uv (jG p)
  have eA:yZ [st (gb (jG p))]=some (iM (some p)):=by
   rcases qz_ (gb (jG p)) (by omega)with⟨o,ho,he,e⟩|⟨w6,_⟩
   ·rw[e,<-GQ he,Qq hp]
   ·exact absurd rfl (w6 (jG p) (by omega))
  unfold iM at eA
  have eI:=af1 p.heard (by omega)
  have eS:=af3 p.list (by omega) y3
  obtain⟨pl,eP,yE,C4⟩:=aeA hB hl
  have su:=C4 _ (oh (l:=pl) (n:=0) (by omega) (by omega))
  have Cz:=C4 _ (oh (l:=pl) (n:=1) (by omega) (by omega))
  have q0:=WO (l:=pl) (n:=0) (by omega) (by omega)
  have q1:=WO (l:=pl) (n:=1) (by omega) (by omega)
  have b0:=HJ (enc:=bu) (l:=pl) (n:=0) (by omega) (by omega)
  have b1:=HJ (enc:=bu) (l:=pl) (n:=1) (by omega) (by omega)
  generalize gt pl 0=x0 at su q0
  generalize gt pl 1=x1 at Cz q1
  have Al:=BH (l:=gb (jG p)) (by omega) (by omega)
  have hle:=Pg (gb (jG p))
  obtain⟨t,eD,ht⟩:=af0 hB hl
  obtain⟨S,hS⟩:∃S,S=gb (jG p):=⟨_,rfl⟩
  obtain⟨n,hn⟩:∃n:Nat,n=S.length:=⟨_,rfl⟩
  rw[<-hS]at eT eA Al hle qu
  rw[<-hn]at hle qu
  obtain⟨j,hj⟩:∃j:Nat,x0.tmod (n:Int)=j:=⟨(x0.tmod n).toNat,by have:=Int.tmod_nonneg (n:Int) su.1;omega⟩
  have hjn:(j:Int)<n:=by rw[<-hj];exact Int.tmod_lt_of_pos _ (by omega)
  have hjS:j<S.length:=by omega
  have r0:=Fo x0 n (by omega)
  rw[hj]at r0
  have r1:=Fo x1 255 (by omega)
  have af7:0<=x1.tmod 255∧x1.tmod 255<255:=⟨Int.tmod_nonneg _ Cz.1,Int.tmod_lt_of_pos _ (by omega)⟩
  generalize x1.tmod 255=y at r1 af7
  have cv:=rk (n:=1+y) (by omega) (by omega)
  have QJ:aR (1+y)≠0:=by
   intro hh
   have:=congrArg UInt8.toNat hh
   have h2:=Pj (n:=1+y) (by omega) (by omega)
   rw[this]at h2
   simp at h2
   omega
  generalize aR (1+y)=z at cv QJ
  have bj:=HJ (enc:=eB) (l:=S) (n:=(j:Int)) (by omega) (by omega)
  have gj:gt S (j:Int)=S[j]:=gL hjS
  have sj:Prim.ev (.de 1 0) [.l (S.map eB),ii j]=some (uB (gt S (j:Int))):=th (by omega) (jE (by omega) (by omega)) rfl rfl rfl
  have xr:=af4 (gt S (j:Int)) z
  have QK:=af5 (a:=gt S (j:Int)) QJ
  generalize hc:gt S (j:Int)^^^z=c at xr QK
  have p1:=N5 (enc:=eB) (sc:=true) (w:=1) (off:=0) (m:=1) (l:=S) (n:=(j:Int)) (vs:=[uB c]) (x:=c) (by omega) (by omega) (λ_=>rfl) (by decide) rfl rfl rfl
  rw[Int.toNat_natCast]at p1
  have es:=zh (S.set j c)
  have eB2:yZ [st (S.set j c)]=some (iM none):=by
   rcases qz_ (S.set j c) (by rw[List.length_set];omega)with⟨o,ho,he,e⟩|⟨_,e⟩
   ·subst hS
    exact absurd he (afm (by omega) (by rw[<-gj];exactλhh=>QK hh.symm) o)
   ·exact e
  unfold iM at eB2
  obtain⟨r,ei,e2,hr⟩:∃r:Option aM,yZ [st t]=some (iM r)∧Bl [st t]=some (iM r)∧∀y,r=some y->nZ y=true∧t=gb (jG y):=by
   rcases qz_ t ht with⟨o,ho,he,e⟩|⟨w6,e⟩
   ·rcases QF t ht with⟨o',xe,EH,e'⟩|⟨QL,e'⟩
    ·have hoo:o=o':=GQ (he.symm.trans EH)
     subst hoo
     refine⟨zk o,e,e',λy hy=>?_⟩
     obtain⟨h1,h2⟩:=Qr hy
     exact⟨h1,by rw[<-h2];exact he⟩
    ·exact absurd he (QL o ho)
   ·rcases QF t ht with⟨o',xe,EH,e'⟩|⟨QL,e'⟩
    ·exact absurd EH (w6 o' xe)
    ·exact⟨none,e,e',λy hy=>by cases hy⟩
  have xx:Prim.ev (.bb .eql) [bb true,bb true]=some (bb true):=rfl
  have xf:Prim.ev (.bb .eql) [bb false,bb false]=some (bb true):=rfl
  cases r with
  |none=>
   unfold iM at ei e2
   have eZ:=qr_ ⟨0,0,0,0,[],[]⟩ (by simp) (by simp) (λr hr=>by cases hr)
   have hz:nZ ⟨0,0,0,0,[],[]⟩=false:=rfl
   unfold ib B0 at eZ
   rw[hz,if_neg Bool.false_ne_true]at eZ
   simp only[List.map_nil]at eZ
   simp(disch:=omega) only[↓pq,↓pj,ps,pz,↓reduceIte,aq,au,av,aw,ax,ay,az,aA,aB,eR,eT,eA,eO,eI,eS,eP,Al,b0,q0,hle,r0,bj,sj,b1,q1,r1,cv,xr,p1,es,eB2,eD,ei,e2,eZ,xf,du,not_true_eq_false]
  |some y=>
   obtain⟨k1,k2⟩:=hr y rfl
   obtain⟨w1,w2,w3⟩:=G6 k1
   unfold iM at ei e2
   have eZ:=qr_ y (by omega) (by omega) w3
   unfold ib B0 at eZ
   rw[k1,if_pos rfl,<-k2]at eZ
   have eq:=aff t t
   rw[decide_eq_true rfl]at eq
   simp(disch:=omega) only[↓pq,↓pj,ps,pz,↓reduceIte,aq,au,av,aw,ax,ay,az,aA,aB,eR,eT,eA,eO,eI,eS,eP,Al,b0,q0,hle,r0,bj,sj,b1,q1,r1,cv,xr,p1,es,eB2,eD,ei,e2,eZ,xx,eq,du,not_true_eq_false]
end Go.Proofs.YtbhplkilhknciaaC
