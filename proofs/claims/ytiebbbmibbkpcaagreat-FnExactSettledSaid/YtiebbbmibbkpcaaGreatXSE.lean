/- What the functions that look into stores and put into them compute. Conditions: none. -/
import Derived.Test.YtiebbbmibbkpcaaGreatXSD
namespace Go.Proofs.YtiebbbmibbkpcaaGreatC
open Int (reduceLE reduceLT reduceEq reduceGT reduceGE reduceAdd reduceSub reduceMul reduceNeg)
set_option linter.unusedVariables false
set_option linter.unusedSimpArgs false
theorem ad0_ (s:List Rcd) (a k o y:Int) (t4 t5 t6 t7:T) (h:s.length≤1048576):wE_ [.l (s.map eRcd),ii a,ii k,ii o,ii y,t4,t5,t6,t7]=some [ii (zq_ (fun x=>xd_ x ⟨a,k,o,y,0,[],0,false⟩) s)]:=by
 rw [aMg_];simp (disch:=omega) only [↓pq,ps,pz,↓reduceIte,reduceLE,reduceLT,reduceEq,reduceGT,reduceGE,reduceAdd,reduceSub,reduceMul,reduceNeg,ku_,ajt_]
 refine (vh_ s (fun i=>[ii 0,ii i]) (fun x=>xd_ x ⟨a,k,o,y,0,[],0,false⟩) (fun i=>some [ii i]) (outN:=some [ii (-1)]) rfl (zc_ h) ?_ ?_).trans (ald_ _ _)
 ·intro i hi q
  simp (disch:=omega) only [↓pq,ps,pz,↓reduceIte,reduceLE,reduceLT,reduceEq,reduceGT,reduceGE,reduceAdd,reduceSub,reduceMul,reduceNeg,ku_,hi,anb_]
  rfl
 ·intro q
  simp (disch:=omega) only [↓pq,ps,pz,↓reduceIte,reduceLE,reduceLT,reduceEq,reduceGT,reduceGE,reduceAdd,reduceSub,reduceMul,reduceNeg,ku_,]
theorem aLg_ (s:List Rcd) (a k o y:Int) (t4 t5 t6 t7:T) (h:s.length≤1048576):jY_ [.l (s.map eRcd),ii a,ii k,ii o,ii y,t4,t5,t6,t7]=some [ii (zq_ (fun x=>xd_ x ⟨a,k,o,y,0,[],0,false⟩) s)]:=by
 rw [aLf_];simp (disch:=omega) only [↓pq,ps,pz,↓reduceIte,reduceLE,reduceLT,reduceEq,reduceGT,reduceGE,reduceAdd,reduceSub,reduceMul,reduceNeg,kn_,ak6_]
 refine (vh_ s (fun i=>[ii 0,ii i]) (fun x=>xd_ x ⟨a,k,o,y,0,[],0,false⟩) (fun i=>some [ii i]) (outN:=some [ii (-1)]) rfl (zc_ h) ?_ ?_).trans (ald_ _ _)
 ·intro i hi q
  simp (disch:=omega) only [↓pq,ps,pz,↓reduceIte,reduceLE,reduceLT,reduceEq,reduceGT,reduceGE,reduceAdd,reduceSub,reduceMul,reduceNeg,kn_,hi,aCf_]
  rfl
 ·intro q
  simp (disch:=omega) only [↓pq,ps,pz,↓reduceIte,reduceLE,reduceLT,reduceEq,reduceGT,reduceGE,reduceAdd,reduceSub,reduceMul,reduceNeg,kn_,]
def keyP (s:List Rcd) (r:Rcd):Int:=zq_ (fun x=>xd_ x r) s
theorem vS_ (s:List Rcd) (h:s.length≤1048576) (hn:NearL s):wY_ [.l (s.map eRcd)]=some [.l (s.map eRcd)]:=by
 rw [apk_];simp (disch:=omega) only [↓pq,ps,pz,↓reduceIte,reduceLE,reduceLT,reduceEq,reduceGT,reduceGE,reduceAdd,reduceSub,reduceMul,reduceNeg,vX_,ks_]
 refine (zp_ s (fun i c=>[.l (c.map eRcd),ii i]) (fun c a=>c++[id a]) (fun c=>some [T.l (c.map eRcd)]) [] (fun i c=>c.length≤i) rfl (zc_ h) (by simp) ?_ ?_).trans (show some [T.l ((s.foldl (fun c a=>c++[id a]) []).map eRcd)]=some [T.l (s.map eRcd)] by rw [ad4_];simp)
 ·intro i c hi hc
  refine ⟨by simp;omega,fun k=>?_⟩
  have:=hn.gt (n:=i) (by omega) hi
  simp (disch:=omega) only [↓pq,ps,pz,↓reduceIte,reduceLE,reduceLT,reduceEq,reduceGT,reduceGE,reduceAdd,reduceSub,reduceMul,reduceNeg,vX_,hi,kR_]
  rfl
 ·intro c k hc
  simp (disch:=omega) only [↓pq,ps,pz,↓reduceIte,reduceLE,reduceLT,reduceEq,reduceGT,reduceGE,reduceAdd,reduceSub,reduceMul,reduceNeg,vX_,]
theorem aqy_ (s:List Rcd) (h:s.length≤1048576) (hn:NearL s):wS_ [.l (s.map eRcd)]=some [.l (s.map eRcd)]:=by
 rw [ap8_];simp (disch:=omega) only [↓pq,ps,pz,↓reduceIte,reduceLE,reduceLT,reduceEq,reduceGT,reduceGE,reduceAdd,reduceSub,reduceMul,reduceNeg,vM_,kA_]
 refine (zp_ s (fun i c=>[.l (c.map eRcd),ii i]) (fun c a=>c++[id a]) (fun c=>some [T.l (c.map eRcd)]) [] (fun i c=>c.length≤i) rfl (zc_ h) (by simp) ?_ ?_).trans (show some [T.l ((s.foldl (fun c a=>c++[id a]) []).map eRcd)]=some [T.l (s.map eRcd)] by rw [ad4_];simp)
 ·intro i c hi hc
  refine ⟨by simp;omega,fun k=>?_⟩
  have:=hn.gt (n:=i) (by omega) hi
  simp (disch:=omega) only [↓pq,ps,pz,↓reduceIte,reduceLE,reduceLT,reduceEq,reduceGT,reduceGE,reduceAdd,reduceSub,reduceMul,reduceNeg,vM_,hi,aC4_]
  rfl
 ·intro c k hc
  simp (disch:=omega) only [↓pq,ps,pz,↓reduceIte,reduceLE,reduceLT,reduceEq,reduceGT,reduceGE,reduceAdd,reduceSub,reduceMul,reduceNeg,vM_,]
def putR (s:List Rcd) (r:Rcd):List Rcd:=s.filter (fun x=>zN_ x r)++([r]++s.filter (fun x=>zN_ r x))
abbrev jh_ (s:List Rcd):Prop:=s.Pairwise fun a b=>zN_ a b=true
theorem aei_ {a b c:Rcd} (h:zN_ a b=true) (h':zN_ b c=true):zN_ a c=true:=by rw [xE_] at *;omega
theorem aNa_ (a:Rcd):zN_ a a=false:=by
 cases h:zN_ a a with
 | false=>rfl
 | true=>rw [xE_] at h;omega
theorem akw_ {a b:Rcd} (h:zN_ a b=true):zN_ b a=false:=by
 cases h':zN_ b a with
 | false=>rfl
 | true=>rw [xE_] at *;omega
theorem aM9_ {a b:Rcd} (h:zN_ a b=false) (h':xd_ a b=false):zN_ b a=true:=by
 have h1:¬ (zN_ a b=true):=by rw [h];decide
 have h2:¬ (xd_ a b=true):=by rw [h'];decide
 rw [xE_] at h1 ⊢
 rw [ael_] at h2
 omega
theorem am4_ {a b r:Rcd} (h:xd_ a b=true):zN_ a r=zN_ b r∧zN_ r a=zN_ r b:=by
 rw [ael_] at h
 constructor
 ·rw [Bool.eq_iff_iff,xE_,xE_];omega
 ·rw [Bool.eq_iff_iff,xE_,xE_];omega
theorem anc_ {s:List Rcd} (h:jh_ s) (r:Rcd):jh_ (putR s r):=by
 unfold putR jh_
 rw [List.pairwise_append]
 refine ⟨h.filter _,?_,?_⟩
 ·rw [List.pairwise_append]
  refine ⟨by simp,h.filter _,?_⟩
  intro a ha b hb
  rw [List.mem_singleton] at ha
  subst ha
  exact (List.mem_filter.1 hb).2
 ·intro a ha b hb
  have ha:=(List.mem_filter.1 ha).2
  rcases List.mem_append.1 hb with hb | hb
  ·rw [List.mem_singleton] at hb
   subst hb;exact ha
  ·exact aei_ ha (List.mem_filter.1 hb).2
theorem aPg_ (s:List Rcd) (r:Rcd):(putR s r).length≤s.length+1:=by
 unfold putR
 have:(s.filter (fun x=>zN_ x r)).length+(s.filter (fun x=>zN_ r x)).length≤s.length:=by
  induction s with
  | nil=>simp
  | cons x s ih =>
   simp only [List.filter_cons]
   cases h:zN_ x r with
   | true=>simp [akw_ h];omega
   | false=>cases h':zN_ r x <;> simp <;> omega
 simp;omega
theorem anz_ {s:List Rcd} {r x:Rcd} (h:x∈putR s r):x=r∨x∈s:=by
 unfold putR at h
 rcases List.mem_append.1 h with h | h
 ·exact .inr (List.mem_filter.1 h).1
 ·rcases List.mem_append.1 h with h | h
  ·exact .inl (List.mem_singleton.1 h)
  ·exact .inr (List.mem_filter.1 h).1
theorem aL1_ {s:List Rcd} {r:Rcd} (h:NearL s) (hr:r.near.length≤1048576):NearL (putR s r):=fun x hx=>by
 rcases anz_ hx with rfl | hx
 ·exact hr
 ·exact h x hx
def yD_ (s:List Rcd) (r:Rcd):Nat:=(s.filter (fun x=>zN_ x r)).length
theorem aPo_ (s:List Rcd) (r:Rcd):yD_ s r≤s.length:=List.length_filter_le _ _
theorem aks_ {s:List Rcd} (h:jh_ s) (r:Rcd):s.take (yD_ s r)=s.filter (fun x=>zN_ x r)∧(∀ i,(hi:i < s.length)→(zN_ s[i] r=true↔i < yD_ s r)):=by
 induction s with
 | nil=>simp [yD_]
 | cons x s ih =>
  have hs:=List.pairwise_cons.1 h
  have ih:=ih hs.2
  cases hx:zN_ x r with
  | true =>
   have e:yD_ (x :: s) r=yD_ s r+1:=by simp [yD_,List.filter_cons,hx]
   rw [e]
   refine ⟨by rw [List.take_succ_cons,ih.1,List.filter_cons,hx];rfl,fun i hi=>?_⟩
   cases i with
   | zero=>simp [hx]
   | succ i =>
    rw [List.getElem_cons_succ]
    have:=ih.2 i (by simpa using hi)
    rw [this];omega
  | false =>
   have none:∀ y∈s,zN_ y r=false:=by
    intro y hy
    cases hyr:zN_ y r with
    | false=>rfl
    | true=>rw [aei_ (hs.1 y hy) hyr] at hx;cases hx
   have e:(x :: s).filter (fun x=>zN_ x r)=[]:=by
    rw [List.filter_eq_nil_iff]
    intro y hy
    rcases List.mem_cons.1 hy with rfl | hy
    ·rw [hx];decide
    ·rw [none y hy];decide
   have e2:yD_ (x :: s) r=0:=by unfold yD_;rw [e];rfl
   rw [e2,e]
   refine ⟨rfl,fun i hi=>⟨fun h3=>?_,fun h3=>absurd h3 (by omega)⟩⟩
   cases i with
   | zero=>rw [List.getElem_cons_zero,hx] at h3;cases h3
   | succ i=>rw [List.getElem_cons_succ,none _ (List.getElem_mem _)] at h3;cases h3
theorem avi_ {s:List Rcd} (h:jh_ s) (r:Rcd):s.drop (yD_ s r+(if yD_ s r < s.length∧xd_ (gt s (yD_ s r:Nat)) r=true then 1 else 0))=s.filter (fun x=>zN_ r x):=by
 have hsp:=aks_ h r
 have h1:s.filter (fun x=>zN_ r x)=(s.drop (yD_ s r)).filter (fun x=>zN_ r x):=by
  have e0:s.filter (fun x=>zN_ r x)=(s.take (yD_ s r)++s.drop (yD_ s r)).filter (fun x=>zN_ r x):=by rw [List.take_append_drop]
  rw [e0,List.filter_append,hsp.1]
  have e:(List.filter (fun x=>zN_ x r) s).filter (fun x=>zN_ r x)=[]:=by
   rw [List.filter_eq_nil_iff]
   intro y hy
   rw [akw_ (List.mem_filter.1 hy).2];decide
  rw [e,List.nil_append]
 rw [h1]
 have hd:∀ x∈s.drop (yD_ s r),zN_ x r=false:=by
  intro x hx
  obtain ⟨i,hi,rfl⟩:=List.mem_iff_getElem.1 hx
  rw [List.getElem_drop]
  cases hc:zN_ (s[yD_ s r+i]'(by simp at hi;omega)) r with
  | false=>rfl
  | true=>have:=(hsp.2 _ (by simp at hi;omega)).1 hc;omega
 have hp:jh_ (s.drop (yD_ s r)):=h.drop
 by_cases hlt:yD_ s r < s.length
 ·have hg:=zr_ hlt
  rw [hg]
  rw [List.drop_eq_getElem_cons hlt] at hd hp ⊢
  have hps:=List.pairwise_cons.1 hp
  by_cases hk:xd_ s[yD_ s r] r=true
  ·rw [if_pos ⟨hlt,hk⟩,List.filter_cons,(am4_ hk).2 ▸ aNa_ r |> fun (e:zN_ r s[yD_ s r]=false)=>e,if_neg (by decide)]
   refine (List.filter_eq_self.2 fun x hx=>?_).symm
   rw [← (am4_ hk).1]
   exact hps.1 x hx
  ·rw [if_neg (by simp [hk]),Nat.add_zero,List.drop_eq_getElem_cons hlt]
   refine (List.filter_eq_self.2 fun x hx=>?_).symm
   have h0:=aM9_ (hd _ (.head _)) (by simpa using hk)
   rcases List.mem_cons.1 hx with rfl | hx
   ·exact h0
   ·exact aei_ h0 (hps.1 x hx)
 ·rw [List.drop_eq_nil_iff.2 (by omega),List.drop_eq_nil_iff.2 (by omega)]
  rfl
theorem NearL.take {s:List Rcd} (h:NearL s) (n:Nat):NearL (s.take n):=fun r hr=>h r (List.mem_of_mem_take hr)
theorem NearL.drop {s:List Rcd} (h:NearL s) (n:Nat):NearL (s.drop n):=fun r hr=>h r (List.mem_of_mem_drop hr)
theorem uF_ {β σ:Type} {F:(σ→Option β)→σ→Option β} {R:Nat} {x:σ} (st:Nat→σ) (n:Nat) {out:Option β} (hx:x=st 0) (hR:n < R) (step:∀ i:Nat,(i:Int) < (n:Int)→∀ s,F s (st i)=s (st (i+1))) (fin:∀ s,F s (st n)=out):iter F R x=out:=by
 have:=xP_ (F:=F) (R:=R) (x:=x) n st (fun _=>true) (outT:=out) (outF:=out) hx hR (fun i hi s=>by simpa using step i hi s) fin
 rw [this];simp
theorem af0_ (s:List Rcd) (a k o y q:Int) (l:List Near) (c:Int) (f:Bool) (h:s.length≤1048570) (hn:NearL s) (hs:jh_ s) (hl:l.length≤1048576) :
  vD_ [.l (s.map eRcd),ii a,ii k,ii o,ii y,ii q,.l (l.map z8_),ii c,bb f]=some [.l ((putR s ⟨a,k,o,y,q,l,c,f⟩).map eRcd)]:=by
 obtain ⟨r,hr⟩:∃ r:Rcd,r=⟨a,k,o,y,q,l,c,f⟩:=⟨_,rfl⟩
 have hle:=aPo_ s r
 have hsp:=aks_ hs r
 have hbe:=avi_ hs r
 rw [aTq_];simp (disch:=omega) only [↓pq,ps,pz,↓reduceIte,reduceLE,reduceLT,reduceEq,reduceGT,reduceGE,reduceAdd,reduceSub,reduceMul,reduceNeg,uz_,ars_]
 refine uF_ (fun i=>[ii i]) (yD_ s r) rfl (zc_ (by omega)) ?_ ?_
 ·intro i hi w
  have hi':(i:Int) < s.length:=by omega
  have hb:zN_ (gt s i) r=true:=by rw [zr_ (by omega)];exact (hsp.2 i (by omega)).2 (by omega)
  have hb':zN_ ⟨(gt s i).area,(gt s i).kind,(gt s i).owner,(gt s i).key,0,[],0,false⟩ ⟨a,k,o,y,0,[],0,false⟩=true:=by rw [← hb,hr];rfl
  simp (disch:=omega) only [↓pq,ps,pz,↓reduceIte,reduceLE,reduceLT,reduceEq,reduceGT,reduceGE,reduceAdd,reduceSub,reduceMul,reduceNeg,uz_,hi',aid_,hb']
 ·intro w
  have ht:((yD_ s r:Nat):Int).toNat=yD_ s r:=Int.toNat_natCast _
  have hl1:(s.take (yD_ s r)).length≤1048570:=by simp;omega
  by_cases hlt:yD_ s r < s.length
  ·have hi':((yD_ s r:Nat):Int) < s.length:=by omega
   have hb:zN_ (gt s (yD_ s r:Nat)) r=false:=by
    rw [zr_ hlt]
    cases hc:zN_ s[yD_ s r] r with
    | false=>rfl
    | true=>have:=(hsp.2 _ hlt).1 hc;omega
   have hb':zN_ ⟨(gt s (yD_ s r:Nat)).area,(gt s (yD_ s r:Nat)).kind,(gt s (yD_ s r:Nat)).owner,(gt s (yD_ s r:Nat)).key,0,[],0,false⟩ ⟨a,k,o,y,0,[],0,false⟩=false:=by rw [← hb,hr];rfl
   have hk':xd_ ⟨(gt s (yD_ s r:Nat)).area,(gt s (yD_ s r:Nat)).kind,(gt s (yD_ s r:Nat)).owner,(gt s (yD_ s r:Nat)).key,0,[],0,false⟩ ⟨a,k,o,y,0,[],0,false⟩=xd_ (gt s (yD_ s r:Nat)) r:=by rw [hr];rfl
   simp (disch:=omega) only [↓pq,ps,pz,↓reduceIte,reduceLE,reduceLT,reduceEq,reduceGT,reduceGE,reduceAdd,reduceSub,reduceMul,reduceNeg,uz_,hi',aid_,hb',ht,vS_ _ (show (s.take (yD_ s r)).length≤1048576 by omega) (hn.take _),kR_,anb_,hk',Bool.false_eq_true]
   cases hk:xd_ (gt s (yD_ s r:Nat)) r with
   | true =>
    have ht2:(((yD_ s r:Nat):Int)+1).toNat=yD_ s r+1:=by omega
    have hd:=vS_ (s.drop (yD_ s r+1)) (by simp;omega) (hn.drop _)
    rw [if_pos ⟨hlt,hk⟩] at hbe
    simp only [if_true]
    simp (disch:=omega) only [↓pq,ps,pz,↓reduceIte,reduceLE,reduceLT,reduceEq,reduceGT,reduceGE,reduceAdd,reduceSub,reduceMul,reduceNeg,uz_,ht2,hd]
    rw [uO_ (by simp;omega),za_,hbe,hsp.1,← hr,List.append_assoc]
    rfl
   | false =>
    have hd:=vS_ (s.drop (yD_ s r)) (by simp;omega) (hn.drop _)
    rw [if_neg (by simp [hk]),Nat.add_zero] at hbe
    simp only [Bool.false_eq_true,if_false]
    simp (disch:=omega) only [↓pq,ps,pz,↓reduceIte,reduceLE,reduceLT,reduceEq,reduceGT,reduceGE,reduceAdd,reduceSub,reduceMul,reduceNeg,uz_,ht,hd]
    rw [uO_ (by simp;omega),za_,hbe,hsp.1,← hr,List.append_assoc]
    rfl
  ·have hi':¬ (((yD_ s r:Nat):Int) < s.length):=by omega
   have hd:=vS_ (s.drop (yD_ s r)) (by simp;omega) (hn.drop _)
   rw [if_neg (by simp [hlt]),Nat.add_zero] at hbe
   simp (disch:=omega) only [↓pq,ps,pz,↓reduceIte,reduceLE,reduceLT,reduceEq,reduceGT,reduceGE,reduceAdd,reduceSub,reduceMul,reduceNeg,uz_,hi',ht,vS_ _ (show (s.take (yD_ s r)).length≤1048576 by omega) (hn.take _),kR_,hd]
   rw [uO_ (by simp;omega),za_,hbe,hsp.1,← hr,List.append_assoc]
   rfl
theorem aiw_ (s:List Rcd) (a k o y q:Int) (l:List Near) (c:Int) (f:Bool) (h:s.length≤1048570) (hn:NearL s) (hl:l.length≤1048576) :
  w3_ [.l (s.map eRcd),ii a,ii k,ii o,ii y,ii q,.l (l.map z8_),ii c,bb f]=some [.l ((putR s ⟨a,k,o,y,q,l,c,f⟩).map eRcd)]:=by
 obtain ⟨r,hr⟩:∃ r:Rcd,r=⟨a,k,o,y,q,l,c,f⟩:=⟨_,rfl⟩
 have hb:∀ x:Rcd,zN_ ⟨x.area,x.kind,x.owner,x.key,0,[],0,false⟩ ⟨a,k,o,y,0,[],0,false⟩=zN_ x r:=fun x=>by rw [hr];rfl
 have hb':∀ x:Rcd,zN_ ⟨a,k,o,y,0,[],0,false⟩ ⟨x.area,x.kind,x.owner,x.key,0,[],0,false⟩=zN_ r x:=fun x=>by rw [hr];rfl
 rw [aH9_];simp (disch:=omega) only [↓pq,ps,pz,↓reduceIte,reduceLE,reduceLT,reduceEq,reduceGT,reduceGE,reduceAdd,reduceSub,reduceMul,reduceNeg,vE_,vF_,ai8_]
 refine (zp_ s (fun i c=>[.l (c.map eRcd),ii i]) (fun c x=>if zN_ x r=true then c++[x] else c) (fun d=>some [T.l ((s.foldl (fun c x=>if zN_ r x=true then c++[x] else c) (d++[r])).map eRcd)]) [] (fun i c=>c.length≤i) rfl (zc_ (by omega)) (by simp) ?_ ?_).trans ?_
 ·intro i c hi hc
  refine ⟨by split <;> (try simp) <;> omega,fun w=>?_⟩
  have:=hn.gt (n:=i) (by omega) hi
  simp (disch:=omega) only [↓pq,ps,pz,↓reduceIte,reduceLE,reduceLT,reduceEq,reduceGT,reduceGE,reduceAdd,reduceSub,reduceMul,reduceNeg,vE_,vF_,hi,ahq_,hb]
  split <;> rfl
 ·intro d w hd
  simp (disch:=omega) only [↓pq,ps,pz,↓reduceIte,reduceLE,reduceLT,reduceEq,reduceGT,reduceGE,reduceAdd,reduceSub,reduceMul,reduceNeg,vE_,vF_,]
  rw [← hr]
  refine zp_ s (fun i c=>[.l (c.map eRcd),ii i]) (fun c x=>if zN_ r x=true then c++[x] else c) (fun c=>some [T.l (c.map eRcd)]) (d++[r]) (fun i c=>c.length≤d.length+1+i) rfl (zc_ (by omega)) (by simp) ?_ ?_
  ·intro i c hi hc
   refine ⟨by split <;> (try simp) <;> omega,fun w=>?_⟩
   have:=hn.gt (n:=i) (by omega) hi
   simp (disch:=omega) only [↓pq,ps,pz,↓reduceIte,reduceLE,reduceLT,reduceEq,reduceGT,reduceGE,reduceAdd,reduceSub,reduceMul,reduceNeg,vE_,vF_,hi,ahq_,hb']
   split <;> rfl
  ·intro c w hc
   simp (disch:=omega) only [↓pq,ps,pz,↓reduceIte,reduceLE,reduceLT,reduceEq,reduceGT,reduceGE,reduceAdd,reduceSub,reduceMul,reduceNeg,vE_,vF_,]
 ·rw [qu_,qu_,← hr]
  unfold putR
  simp
end Go.Proofs.YtiebbbmibbkpcaaGreatC
