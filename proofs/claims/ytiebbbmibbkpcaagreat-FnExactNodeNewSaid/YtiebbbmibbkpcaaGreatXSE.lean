/- What the functions that look into stores and put into them compute. Conditions: none. -/
import Derived.Test.YtiebbbmibbkpcaaGreatXSD
namespace Go.Proofs.YtiebbbmibbkpcaaGreatC
open Int (reduceLE reduceLT reduceEq reduceGT reduceGE reduceAdd reduceSub reduceMul reduceNeg)
set_option linter.unusedVariables false
set_option linter.unusedSimpArgs false
theorem qm_ (s:List Rcd) (a k o y:Int) (t4 t5 t6 t7:T) (h:s.length≤1048576):xe_ [.l (s.map eRcd),ii a,ii k,ii o,ii y,t4,t5,t6,t7]=some [ii (zu_ (fun x=>zp_ x ⟨a,k,o,y,0,[],0,false⟩) s)]:=by
 rw [aK0_];simp (disch:=omega) only [↓pq,ps,pz,↓reduceIte,reduceLE,reduceLT,reduceEq,reduceGT,reduceGE,reduceAdd,reduceSub,reduceMul,reduceNeg,ks_,akq_]
 refine (vi_ s (fun i=>[ii 0,ii i]) (fun x=>zp_ x ⟨a,k,o,y,0,[],0,false⟩) (fun i=>some [ii i]) (outN:=some [ii (-1)]) rfl (zb_ h) ?_ ?_).trans (aka_ _ _)
 ·intro i hi q
  simp (disch:=omega) only [↓pq,ps,pz,↓reduceIte,reduceLE,reduceLT,reduceEq,reduceGT,reduceGE,reduceAdd,reduceSub,reduceMul,reduceNeg,ks_,hi,aey_]
  rfl
 ·intro q
  simp (disch:=omega) only [↓pq,ps,pz,↓reduceIte,reduceLE,reduceLT,reduceEq,reduceGT,reduceGE,reduceAdd,reduceSub,reduceMul,reduceNeg,ks_,]
theorem akw_ (s:List Rcd) (a k o y:Int) (t4 t5 t6 t7:T) (h:s.length≤1048576):wF_ [.l (s.map eRcd),ii a,ii k,ii o,ii y,t4,t5,t6,t7]=some [ii (zu_ (fun x=>zp_ x ⟨a,k,o,y,0,[],0,false⟩) s)]:=by
 rw [aK6_];simp (disch:=omega) only [↓pq,ps,pz,↓reduceIte,reduceLE,reduceLT,reduceEq,reduceGT,reduceGE,reduceAdd,reduceSub,reduceMul,reduceNeg,kt_,ak2_]
 refine (vi_ s (fun i=>[ii 0,ii i]) (fun x=>zp_ x ⟨a,k,o,y,0,[],0,false⟩) (fun i=>some [ii i]) (outN:=some [ii (-1)]) rfl (zb_ h) ?_ ?_).trans (aka_ _ _)
 ·intro i hi q
  simp (disch:=omega) only [↓pq,ps,pz,↓reduceIte,reduceLE,reduceLT,reduceEq,reduceGT,reduceGE,reduceAdd,reduceSub,reduceMul,reduceNeg,kt_,hi,ami_]
  rfl
 ·intro q
  simp (disch:=omega) only [↓pq,ps,pz,↓reduceIte,reduceLE,reduceLT,reduceEq,reduceGT,reduceGE,reduceAdd,reduceSub,reduceMul,reduceNeg,kt_,]
def keyP (s:List Rcd) (r:Rcd):Int:=zu_ (fun x=>zp_ x r) s
theorem abz_ (s:List Rcd) (r:Rcd):zu_ (fun x=>zp_ x ⟨r.area,r.kind,r.owner,r.key,0,[],0,false⟩) s=keyP s r:=rfl
theorem wA_ (s:List Rcd) (h:s.length≤1048576) (hn:NearL s):yU_ [.l (s.map eRcd)]=some [.l (s.map eRcd)]:=by
 rw [ao8_];simp (disch:=omega) only [↓pq,ps,pz,↓reduceIte,reduceLE,reduceLT,reduceEq,reduceGT,reduceGE,reduceAdd,reduceSub,reduceMul,reduceNeg,vW_,kd_]
 refine (zg_ s (fun i c=>[.l (c.map eRcd),ii i]) (fun c a=>c++[id a]) (fun c=>some [T.l (c.map eRcd)]) [] (fun i c=>c.length≤i) rfl (zb_ h) (by simp) ?_ ?_).trans (show some [T.l ((s.foldl (fun c a=>c++[id a]) []).map eRcd)]=some [T.l (s.map eRcd)] by rw [foldl_map];simp)
 ·intro i c hi hc
  refine ⟨by simp;omega,fun k=>?_⟩
  have:=hn.gt (n:=i) (by omega) hi
  simp (disch:=omega) only [↓pq,ps,pz,↓reduceIte,reduceLE,reduceLT,reduceEq,reduceGT,reduceGE,reduceAdd,reduceSub,reduceMul,reduceNeg,vW_,hi,kU_]
  rfl
 ·intro c k hc
  simp (disch:=omega) only [↓pq,ps,pz,↓reduceIte,reduceLE,reduceLT,reduceEq,reduceGT,reduceGE,reduceAdd,reduceSub,reduceMul,reduceNeg,vW_,]
theorem vI_ (s:List Rcd) (h:s.length≤1048576) (hn:NearL s):yA_ [.l (s.map eRcd)]=some [.l (s.map eRcd)]:=by
 rw [aqg_];simp (disch:=omega) only [↓pq,ps,pz,↓reduceIte,reduceLE,reduceLT,reduceEq,reduceGT,reduceGE,reduceAdd,reduceSub,reduceMul,reduceNeg,vM_,ki_]
 refine (zg_ s (fun i c=>[.l (c.map eRcd),ii i]) (fun c a=>c++[id a]) (fun c=>some [T.l (c.map eRcd)]) [] (fun i c=>c.length≤i) rfl (zb_ h) (by simp) ?_ ?_).trans (show some [T.l ((s.foldl (fun c a=>c++[id a]) []).map eRcd)]=some [T.l (s.map eRcd)] by rw [foldl_map];simp)
 ·intro i c hi hc
  refine ⟨by simp;omega,fun k=>?_⟩
  have:=hn.gt (n:=i) (by omega) hi
  simp (disch:=omega) only [↓pq,ps,pz,↓reduceIte,reduceLE,reduceLT,reduceEq,reduceGT,reduceGE,reduceAdd,reduceSub,reduceMul,reduceNeg,vM_,hi,aev_]
  rfl
 ·intro c k hc
  simp (disch:=omega) only [↓pq,ps,pz,↓reduceIte,reduceLE,reduceLT,reduceEq,reduceGT,reduceGE,reduceAdd,reduceSub,reduceMul,reduceNeg,vM_,]
def putR (s:List Rcd) (r:Rcd):List Rcd:=s.filter (fun x=>zC_ x r)++([r]++s.filter (fun x=>zC_ r x))
abbrev yR_ (s:List Rcd):Prop:=s.Pairwise fun a b=>zC_ a b=true
theorem k2_ {a b c:Rcd} (h:zC_ a b=true) (h':zC_ b c=true):zC_ a c=true:=by rw [y0_] at *;omega
theorem adu_ (a:Rcd):zC_ a a=false:=by
 cases h:zC_ a a with
 | false=>rfl
 | true=>rw [y0_] at h;omega
theorem aad_ {a b:Rcd} (h:zC_ a b=true):zC_ b a=false:=by
 cases h':zC_ b a with
 | false=>rfl
 | true=>rw [y0_] at *;omega
theorem qI_ {a b:Rcd} (h:zC_ a b=true):zp_ a b=false:=by
 cases h':zp_ a b with
 | false=>rfl
 | true=>rw [y0_] at h;rw [xa_] at h';omega
theorem asl_ {a b:Rcd} (h:zC_ a b=false) (h':zp_ a b=false):zC_ b a=true:=by
 have h1:¬ (zC_ a b=true):=by rw [h];decide
 have h2:¬ (zp_ a b=true):=by rw [h'];decide
 rw [y0_] at h1 ⊢
 rw [xa_] at h2
 omega
theorem amb_ {a b r:Rcd} (h:zp_ a b=true):zC_ a r=zC_ b r∧zC_ r a=zC_ r b:=by
 rw [xa_] at h
 constructor
 ·rw [Bool.eq_iff_iff,y0_,y0_];omega
 ·rw [Bool.eq_iff_iff,y0_,y0_];omega
theorem aKr_ {s:List Rcd} (h:ascB zR_ zC_ s=true):yR_ s:=by
 have h:=allB_iff.1 h
 rw [yR_,List.pairwise_iff_getElem]
 have step:∀ i,(hi:i+1 < s.length)→zC_ s[i] s[i+1]=true:=by
  intro i hi
  have:=h (i+1) hi
  simp only [Bool.and_eq_true,Bool.or_eq_true,Bool.not_eq_true',decide_eq_false_iff_not] at this
  have h2:=this.2.resolve_left (by omega)
  rwa [show (((i+1:Nat):Int) - 1)=(i:Int) by omega,zm_ (by omega),zm_ hi] at h2
 intro i j hi hj hij
 obtain ⟨d,rfl⟩:∃ d,j=i+1+d:=⟨j - i - 1,by omega⟩
 clear hij
 induction d with
 | zero=>exact step i (by omega)
 | succ d ih=>exact k2_ (ih (by omega)) (step (i+1+d) (by omega))
theorem jb_ {s:List Rcd} (h:zk_ s=true):yR_ s:=by
 simp only [zk_,Bool.and_eq_true] at h;exact aKr_ h.2
theorem uY_ {s:List Rcd} (h:yR_ s) (r:Rcd):yR_ (putR s r):=by
 unfold putR yR_
 rw [List.pairwise_append]
 refine ⟨h.filter _,?_,?_⟩
 ·rw [List.pairwise_append]
  refine ⟨by simp,h.filter _,?_⟩
  intro a ha b hb
  rw [List.mem_singleton] at ha
  subst ha
  exact (List.mem_filter.1 hb).2
 ·intro a ha b hb
  have ha:=(List.mem_filter.1 ha).2
  rcases List.mem_append.1 hb with hb | hb
  ·rw [List.mem_singleton] at hb
   subst hb;exact ha
  ·exact k2_ ha (List.mem_filter.1 hb).2
theorem axs_ (s:List Rcd) (r:Rcd):(putR s r).length≤s.length+1:=by
 unfold putR
 have:(s.filter (fun x=>zC_ x r)).length+(s.filter (fun x=>zC_ r x)).length≤s.length:=by
  induction s with
  | nil=>simp
  | cons x s ih =>
   simp only [List.filter_cons]
   cases h:zC_ x r with
   | true=>simp [aad_ h];omega
   | false=>cases h':zC_ r x <;> simp <;> omega
 simp;omega
theorem v1_ {s:List Rcd} {r x:Rcd} (h:x∈putR s r):x=r∨x∈s:=by
 unfold putR at h
 rcases List.mem_append.1 h with h | h
 ·exact .inr (List.mem_filter.1 h).1
 ·rcases List.mem_append.1 h with h | h
  ·exact .inl (List.mem_singleton.1 h)
  ·exact .inr (List.mem_filter.1 h).1
theorem arz_ {s:List Rcd} {r:Rcd} (h:NearL s) (hr:r.near.length≤1048576):NearL (putR s r):=fun x hx=>by
 rcases v1_ hx with rfl | hx
 ·exact hr
 ·exact h x hx
def yi_ (s:List Rcd) (r:Rcd):Nat:=(s.filter (fun x=>zC_ x r)).length
theorem aMi_ (s:List Rcd) (r:Rcd):yi_ s r≤s.length:=List.length_filter_le _ _
theorem akf_ {s:List Rcd} (h:yR_ s) (r:Rcd):s.take (yi_ s r)=s.filter (fun x=>zC_ x r)∧(∀ i,(hi:i < s.length)→(zC_ s[i] r=true↔i < yi_ s r)):=by
 induction s with
 | nil=>simp [yi_]
 | cons x s ih =>
  have hs:=List.pairwise_cons.1 h
  have ih:=ih hs.2
  cases hx:zC_ x r with
  | true =>
   have e:yi_ (x :: s) r=yi_ s r+1:=by simp [yi_,List.filter_cons,hx]
   rw [e]
   refine ⟨by rw [List.take_succ_cons,ih.1,List.filter_cons,hx];rfl,fun i hi=>?_⟩
   cases i with
   | zero=>simp [hx]
   | succ i =>
    rw [List.getElem_cons_succ]
    have:=ih.2 i (by simpa using hi)
    rw [this];omega
  | false =>
   have none:∀ y∈s,zC_ y r=false:=by
    intro y hy
    cases hyr:zC_ y r with
    | false=>rfl
    | true=>rw [k2_ (hs.1 y hy) hyr] at hx;cases hx
   have e:(x :: s).filter (fun x=>zC_ x r)=[]:=by
    rw [List.filter_eq_nil_iff]
    intro y hy
    rcases List.mem_cons.1 hy with rfl | hy
    ·rw [hx];decide
    ·rw [none y hy];decide
   have e2:yi_ (x :: s) r=0:=by unfold yi_;rw [e];rfl
   rw [e2,e]
   refine ⟨rfl,fun i hi=>⟨fun h3=>?_,fun h3=>absurd h3 (by omega)⟩⟩
   cases i with
   | zero=>rw [List.getElem_cons_zero,hx] at h3;cases h3
   | succ i=>rw [List.getElem_cons_succ,none _ (List.getElem_mem _)] at h3;cases h3
theorem ata_ {s:List Rcd} (h:yR_ s) (r:Rcd):s.drop (yi_ s r+(if yi_ s r < s.length∧zp_ (gt s (yi_ s r:Nat)) r=true then 1 else 0))=s.filter (fun x=>zC_ r x):=by
 have hsp:=akf_ h r
 have h1:s.filter (fun x=>zC_ r x)=(s.drop (yi_ s r)).filter (fun x=>zC_ r x):=by
  have e0:s.filter (fun x=>zC_ r x)=(s.take (yi_ s r)++s.drop (yi_ s r)).filter (fun x=>zC_ r x):=by rw [List.take_append_drop]
  rw [e0,List.filter_append,hsp.1]
  have e:(List.filter (fun x=>zC_ x r) s).filter (fun x=>zC_ r x)=[]:=by
   rw [List.filter_eq_nil_iff]
   intro y hy
   rw [aad_ (List.mem_filter.1 hy).2];decide
  rw [e,List.nil_append]
 rw [h1]
 have hd:∀ x∈s.drop (yi_ s r),zC_ x r=false:=by
  intro x hx
  obtain ⟨i,hi,rfl⟩:=List.mem_iff_getElem.1 hx
  rw [List.getElem_drop]
  cases hc:zC_ (s[yi_ s r+i]'(by simp at hi;omega)) r with
  | false=>rfl
  | true=>have:=(hsp.2 _ (by simp at hi;omega)).1 hc;omega
 have hp:yR_ (s.drop (yi_ s r)):=h.drop
 by_cases hlt:yi_ s r < s.length
 ·have hg:=zm_ hlt
  rw [hg]
  rw [List.drop_eq_getElem_cons hlt] at hd hp ⊢
  have hps:=List.pairwise_cons.1 hp
  by_cases hk:zp_ s[yi_ s r] r=true
  ·rw [if_pos ⟨hlt,hk⟩,List.filter_cons,(amb_ hk).2 ▸ adu_ r |> fun (e:zC_ r s[yi_ s r]=false)=>e,if_neg (by decide)]
   refine (List.filter_eq_self.2 fun x hx=>?_).symm
   rw [← (amb_ hk).1]
   exact hps.1 x hx
  ·rw [if_neg (by simp [hk]),Nat.add_zero,List.drop_eq_getElem_cons hlt]
   refine (List.filter_eq_self.2 fun x hx=>?_).symm
   have h0:=asl_ (hd _ (.head _)) (by simpa using hk)
   rcases List.mem_cons.1 hx with rfl | hx
   ·exact h0
   ·exact k2_ h0 (hps.1 x hx)
 ·rw [List.drop_eq_nil_iff.2 (by omega),List.drop_eq_nil_iff.2 (by omega)]
  rfl
theorem NearL.take {s:List Rcd} (h:NearL s) (n:Nat):NearL (s.take n):=fun r hr=>h r (List.mem_of_mem_take hr)
theorem NearL.drop {s:List Rcd} (h:NearL s) (n:Nat):NearL (s.drop n):=fun r hr=>h r (List.mem_of_mem_drop hr)
theorem qC_ {β σ:Type} {F:(σ→Option β)→σ→Option β} {R:Nat} {x:σ} (st:Nat→σ) (n:Nat) {out:Option β} (hx:x=st 0) (hR:n < R) (step:∀ i:Nat,(i:Int) < (n:Int)→∀ s,F s (st i)=s (st (i+1))) (fin:∀ s,F s (st n)=out):iter F R x=out:=by
 have:=wt_ (F:=F) (R:=R) (x:=x) n st (fun _=>true) (outT:=out) (outF:=out) hx hR (fun i hi s=>by simpa using step i hi s) fin
 rw [this];simp
theorem qJ_ (s:List Rcd) (a k o y q:Int) (l:List Near) (c:Int) (f:Bool) (h:s.length≤1048570) (hn:NearL s) (hs:yR_ s) (hl:l.length≤1048576) :
  x3_ [.l (s.map eRcd),ii a,ii k,ii o,ii y,ii q,.l (l.map zF_),ii c,bb f]=some [.l ((putR s ⟨a,k,o,y,q,l,c,f⟩).map eRcd)]:=by
 obtain ⟨r,hr⟩:∃ r:Rcd,r=⟨a,k,o,y,q,l,c,f⟩:=⟨_,rfl⟩
 have hle:=aMi_ s r
 have hsp:=akf_ hs r
 have hbe:=ata_ hs r
 rw [aPv_];simp (disch:=omega) only [↓pq,ps,pz,↓reduceIte,reduceLE,reduceLT,reduceEq,reduceGT,reduceGE,reduceAdd,reduceSub,reduceMul,reduceNeg,uB_,arc_]
 refine qC_ (fun i=>[ii i]) (yi_ s r) rfl (zb_ (by omega)) ?_ ?_
 ·intro i hi w
  have hi':(i:Int) < s.length:=by omega
  have hb:zC_ (gt s i) r=true:=by rw [zm_ (by omega)];exact (hsp.2 i (by omega)).2 (by omega)
  have hb':zC_ ⟨(gt s i).area,(gt s i).kind,(gt s i).owner,(gt s i).key,0,[],0,false⟩ ⟨a,k,o,y,0,[],0,false⟩=true:=by rw [← hb,hr];rfl
  simp (disch:=omega) only [↓pq,ps,pz,↓reduceIte,reduceLE,reduceLT,reduceEq,reduceGT,reduceGE,reduceAdd,reduceSub,reduceMul,reduceNeg,uB_,hi',agm_,hb']
 ·intro w
  have ht:((yi_ s r:Nat):Int).toNat=yi_ s r:=Int.toNat_natCast _
  have hl1:(s.take (yi_ s r)).length≤1048570:=by simp;omega
  by_cases hlt:yi_ s r < s.length
  ·have hi':((yi_ s r:Nat):Int) < s.length:=by omega
   have hb:zC_ (gt s (yi_ s r:Nat)) r=false:=by
    rw [zm_ hlt]
    cases hc:zC_ s[yi_ s r] r with
    | false=>rfl
    | true=>have:=(hsp.2 _ hlt).1 hc;omega
   have hb':zC_ ⟨(gt s (yi_ s r:Nat)).area,(gt s (yi_ s r:Nat)).kind,(gt s (yi_ s r:Nat)).owner,(gt s (yi_ s r:Nat)).key,0,[],0,false⟩ ⟨a,k,o,y,0,[],0,false⟩=false:=by rw [← hb,hr];rfl
   have hk':zp_ ⟨(gt s (yi_ s r:Nat)).area,(gt s (yi_ s r:Nat)).kind,(gt s (yi_ s r:Nat)).owner,(gt s (yi_ s r:Nat)).key,0,[],0,false⟩ ⟨a,k,o,y,0,[],0,false⟩=zp_ (gt s (yi_ s r:Nat)) r:=by rw [hr];rfl
   simp (disch:=omega) only [↓pq,ps,pz,↓reduceIte,reduceLE,reduceLT,reduceEq,reduceGT,reduceGE,reduceAdd,reduceSub,reduceMul,reduceNeg,uB_,hi',agm_,hb',ht,wA_ _ (show (s.take (yi_ s r)).length≤1048576 by omega) (hn.take _),kU_,aey_,hk',Bool.false_eq_true]
   cases hk:zp_ (gt s (yi_ s r:Nat)) r with
   | true =>
    have ht2:(((yi_ s r:Nat):Int)+1).toNat=yi_ s r+1:=by omega
    have hd:=wA_ (s.drop (yi_ s r+1)) (by simp;omega) (hn.drop _)
    rw [if_pos ⟨hlt,hk⟩] at hbe
    simp only [if_true]
    simp (disch:=omega) only [↓pq,ps,pz,↓reduceIte,reduceLE,reduceLT,reduceEq,reduceGT,reduceGE,reduceAdd,reduceSub,reduceMul,reduceNeg,uB_,ht2,hd]
    rw [uU_ (by simp;omega),za_,hbe,hsp.1,← hr,List.append_assoc]
    rfl
   | false =>
    have hd:=wA_ (s.drop (yi_ s r)) (by simp;omega) (hn.drop _)
    rw [if_neg (by simp [hk]),Nat.add_zero] at hbe
    simp only [Bool.false_eq_true,if_false]
    simp (disch:=omega) only [↓pq,ps,pz,↓reduceIte,reduceLE,reduceLT,reduceEq,reduceGT,reduceGE,reduceAdd,reduceSub,reduceMul,reduceNeg,uB_,ht,hd]
    rw [uU_ (by simp;omega),za_,hbe,hsp.1,← hr,List.append_assoc]
    rfl
  ·have hi':¬ (((yi_ s r:Nat):Int) < s.length):=by omega
   have hd:=wA_ (s.drop (yi_ s r)) (by simp;omega) (hn.drop _)
   rw [if_neg (by simp [hlt]),Nat.add_zero] at hbe
   simp (disch:=omega) only [↓pq,ps,pz,↓reduceIte,reduceLE,reduceLT,reduceEq,reduceGT,reduceGE,reduceAdd,reduceSub,reduceMul,reduceNeg,uB_,hi',ht,wA_ _ (show (s.take (yi_ s r)).length≤1048576 by omega) (hn.take _),kU_,hd]
   rw [uU_ (by simp;omega),za_,hbe,hsp.1,← hr,List.append_assoc]
   rfl
theorem aaz_ (s:List Rcd) (a k o y q:Int) (l:List Near) (c:Int) (f:Bool) (h:s.length≤1048570) (hn:NearL s) (hl:l.length≤1048576) :
  x6_ [.l (s.map eRcd),ii a,ii k,ii o,ii y,ii q,.l (l.map zF_),ii c,bb f]=some [.l ((putR s ⟨a,k,o,y,q,l,c,f⟩).map eRcd)]:=by
 obtain ⟨r,hr⟩:∃ r:Rcd,r=⟨a,k,o,y,q,l,c,f⟩:=⟨_,rfl⟩
 have hb:∀ x:Rcd,zC_ ⟨x.area,x.kind,x.owner,x.key,0,[],0,false⟩ ⟨a,k,o,y,0,[],0,false⟩=zC_ x r:=fun x=>by rw [hr];rfl
 have hb':∀ x:Rcd,zC_ ⟨a,k,o,y,0,[],0,false⟩ ⟨x.area,x.kind,x.owner,x.key,0,[],0,false⟩=zC_ r x:=fun x=>by rw [hr];rfl
 rw [aEq_];simp (disch:=omega) only [↓pq,ps,pz,↓reduceIte,reduceLE,reduceLT,reduceEq,reduceGT,reduceGE,reduceAdd,reduceSub,reduceMul,reduceNeg,vC_,vF_,ah2_]
 refine (zg_ s (fun i c=>[.l (c.map eRcd),ii i]) (fun c x=>if zC_ x r=true then c++[x] else c) (fun d=>some [T.l ((s.foldl (fun c x=>if zC_ r x=true then c++[x] else c) (d++[r])).map eRcd)]) [] (fun i c=>c.length≤i) rfl (zb_ (by omega)) (by simp) ?_ ?_).trans ?_
 ·intro i c hi hc
  refine ⟨by split <;> (try simp) <;> omega,fun w=>?_⟩
  have:=hn.gt (n:=i) (by omega) hi
  simp (disch:=omega) only [↓pq,ps,pz,↓reduceIte,reduceLE,reduceLT,reduceEq,reduceGT,reduceGE,reduceAdd,reduceSub,reduceMul,reduceNeg,vC_,vF_,hi,ah6_,hb]
  split <;> rfl
 ·intro d w hd
  simp (disch:=omega) only [↓pq,ps,pz,↓reduceIte,reduceLE,reduceLT,reduceEq,reduceGT,reduceGE,reduceAdd,reduceSub,reduceMul,reduceNeg,vC_,vF_,]
  rw [← hr]
  refine zg_ s (fun i c=>[.l (c.map eRcd),ii i]) (fun c x=>if zC_ r x=true then c++[x] else c) (fun c=>some [T.l (c.map eRcd)]) (d++[r]) (fun i c=>c.length≤d.length+1+i) rfl (zb_ (by omega)) (by simp) ?_ ?_
  ·intro i c hi hc
   refine ⟨by split <;> (try simp) <;> omega,fun w=>?_⟩
   have:=hn.gt (n:=i) (by omega) hi
   simp (disch:=omega) only [↓pq,ps,pz,↓reduceIte,reduceLE,reduceLT,reduceEq,reduceGT,reduceGE,reduceAdd,reduceSub,reduceMul,reduceNeg,vC_,vF_,hi,ah6_,hb']
   split <;> rfl
  ·intro c w hc
   simp (disch:=omega) only [↓pq,ps,pz,↓reduceIte,reduceLE,reduceLT,reduceEq,reduceGT,reduceGE,reduceAdd,reduceSub,reduceMul,reduceNeg,vC_,vF_,]
 ·rw [qs_,qs_,← hr]
  unfold putR
  simp
theorem aKn_ {s:List Rcd} {r:Rcd} {n:Nat} (h:s.length+1≤n):(putR s r).length≤n:=Nat.le_trans (axs_ s r) h
end Go.Proofs.YtiebbbmibbkpcaaGreatC
