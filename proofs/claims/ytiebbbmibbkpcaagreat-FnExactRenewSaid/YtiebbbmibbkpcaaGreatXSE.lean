/- What the functions that look into stores and put into them compute. Conditions: none. -/
import Derived.Test.YtiebbbmibbkpcaaGreatXSD
namespace Go.Proofs.YtiebbbmibbkpcaaGreatC
open Int (reduceLE reduceLT reduceEq reduceGT reduceGE reduceAdd reduceSub reduceMul reduceNeg)
set_option linter.unusedVariables false
set_option linter.unusedSimpArgs false
theorem qf_ (s:List Rcd) (a k o y:Int) (t4 t5 t6 t7:T) (h:s.length≤1048576):xa_ [.l (s.map eRcd),ii a,ii k,ii o,ii y,t4,t5,t6,t7]=some [ii (zv_ (fun x=>zn_ x ⟨a,k,o,y,0,[],0,false⟩) s)]:=by
 rw [aJa_];simp (disch:=omega) only [↓pq,ps,pz,↓reduceIte,reduceLE,reduceLT,reduceEq,reduceGT,reduceGE,reduceAdd,reduceSub,reduceMul,reduceNeg,kl_,ak3_]
 refine (w9_ s (fun i=>[ii 0,ii i]) (fun x=>zn_ x ⟨a,k,o,y,0,[],0,false⟩) (fun i=>some [ii i]) (outN:=some [ii (-1)]) rfl (zb_ h) ?_ ?_).trans (aj5_ _ _)
 ·intro i hi q
  simp (disch:=omega) only [↓pq,ps,pz,↓reduceIte,reduceLE,reduceLT,reduceEq,reduceGT,reduceGE,reduceAdd,reduceSub,reduceMul,reduceNeg,kl_,hi,aeh_]
  rfl
 ·intro q
  simp (disch:=omega) only [↓pq,ps,pz,↓reduceIte,reduceLE,reduceLT,reduceEq,reduceGT,reduceGE,reduceAdd,reduceSub,reduceMul,reduceNeg,kl_,]
theorem akr_ (s:List Rcd) (a k o y:Int) (t4 t5 t6 t7:T) (h:s.length≤1048576):wB_ [.l (s.map eRcd),ii a,ii k,ii o,ii y,t4,t5,t6,t7]=some [ii (zv_ (fun x=>zn_ x ⟨a,k,o,y,0,[],0,false⟩) s)]:=by
 rw [aIt_];simp (disch:=omega) only [↓pq,ps,pz,↓reduceIte,reduceLE,reduceLT,reduceEq,reduceGT,reduceGE,reduceAdd,reduceSub,reduceMul,reduceNeg,kh_,aky_]
 refine (w9_ s (fun i=>[ii 0,ii i]) (fun x=>zn_ x ⟨a,k,o,y,0,[],0,false⟩) (fun i=>some [ii i]) (outN:=some [ii (-1)]) rfl (zb_ h) ?_ ?_).trans (aj5_ _ _)
 ·intro i hi q
  simp (disch:=omega) only [↓pq,ps,pz,↓reduceIte,reduceLE,reduceLT,reduceEq,reduceGT,reduceGE,reduceAdd,reduceSub,reduceMul,reduceNeg,kh_,hi,al9_]
  rfl
 ·intro q
  simp (disch:=omega) only [↓pq,ps,pz,↓reduceIte,reduceLE,reduceLT,reduceEq,reduceGT,reduceGE,reduceAdd,reduceSub,reduceMul,reduceNeg,kh_,]
def keyP (s:List Rcd) (r:Rcd):Int:=zv_ (fun x=>zn_ x r) s
theorem acj_ (s:List Rcd) (r:Rcd):zv_ (fun x=>zn_ x ⟨r.area,r.kind,r.owner,r.key,0,[],0,false⟩) s=keyP s r:=rfl
theorem wr_ (s:List Rcd) (h:s.length≤1048576) (hn:NearL s):yS_ [.l (s.map eRcd)]=some [.l (s.map eRcd)]:=by
 rw [ao8_];simp (disch:=omega) only [↓pq,ps,pz,↓reduceIte,reduceLE,reduceLT,reduceEq,reduceGT,reduceGE,reduceAdd,reduceSub,reduceMul,reduceNeg,vG_,ka_]
 refine (zg_ s (fun i c=>[.l (c.map eRcd),ii i]) (fun c a=>c++[id a]) (fun c=>some [T.l (c.map eRcd)]) [] (fun i c=>c.length≤i) rfl (zb_ h) (by simp) ?_ ?_).trans (show some [T.l ((s.foldl (fun c a=>c++[id a]) []).map eRcd)]=some [T.l (s.map eRcd)] by rw [foldl_map];simp)
 ·intro i c hi hc
  refine ⟨by simp;omega,fun k=>?_⟩
  have:=hn.gt (n:=i) (by omega) hi
  simp (disch:=omega) only [↓pq,ps,pz,↓reduceIte,reduceLE,reduceLT,reduceEq,reduceGT,reduceGE,reduceAdd,reduceSub,reduceMul,reduceNeg,vG_,hi,kQ_]
  rfl
 ·intro c k hc
  simp (disch:=omega) only [↓pq,ps,pz,↓reduceIte,reduceLE,reduceLT,reduceEq,reduceGT,reduceGE,reduceAdd,reduceSub,reduceMul,reduceNeg,vG_,]
theorem vM_ (s:List Rcd) (h:s.length≤1048576) (hn:NearL s):yA_ [.l (s.map eRcd)]=some [.l (s.map eRcd)]:=by
 rw [aov_];simp (disch:=omega) only [↓pq,ps,pz,↓reduceIte,reduceLE,reduceLT,reduceEq,reduceGT,reduceGE,reduceAdd,reduceSub,reduceMul,reduceNeg,vC_,kt_]
 refine (zg_ s (fun i c=>[.l (c.map eRcd),ii i]) (fun c a=>c++[id a]) (fun c=>some [T.l (c.map eRcd)]) [] (fun i c=>c.length≤i) rfl (zb_ h) (by simp) ?_ ?_).trans (show some [T.l ((s.foldl (fun c a=>c++[id a]) []).map eRcd)]=some [T.l (s.map eRcd)] by rw [foldl_map];simp)
 ·intro i c hi hc
  refine ⟨by simp;omega,fun k=>?_⟩
  have:=hn.gt (n:=i) (by omega) hi
  simp (disch:=omega) only [↓pq,ps,pz,↓reduceIte,reduceLE,reduceLT,reduceEq,reduceGT,reduceGE,reduceAdd,reduceSub,reduceMul,reduceNeg,vC_,hi,aez_]
  rfl
 ·intro c k hc
  simp (disch:=omega) only [↓pq,ps,pz,↓reduceIte,reduceLE,reduceLT,reduceEq,reduceGT,reduceGE,reduceAdd,reduceSub,reduceMul,reduceNeg,vC_,]
def putR (s:List Rcd) (r:Rcd):List Rcd:=s.filter (fun x=>zA_ x r)++([r]++s.filter (fun x=>zA_ r x))
abbrev yQ_ (s:List Rcd):Prop:=s.Pairwise fun a b=>zA_ a b=true
theorem kY_ {a b c:Rcd} (h:zA_ a b=true) (h':zA_ b c=true):zA_ a c=true:=by rw [yY_] at *;omega
theorem ad2_ (a:Rcd):zA_ a a=false:=by
 cases h:zA_ a a with
 | false=>rfl
 | true=>rw [yY_] at h;omega
theorem aan_ {a b:Rcd} (h:zA_ a b=true):zA_ b a=false:=by
 cases h':zA_ b a with
 | false=>rfl
 | true=>rw [yY_] at *;omega
theorem qW_ {a b:Rcd} (h:zA_ a b=true):zn_ a b=false:=by
 cases h':zn_ a b with
 | false=>rfl
 | true=>rw [yY_] at h;rw [y6_] at h';omega
theorem asp_ {a b:Rcd} (h:zA_ a b=false) (h':zn_ a b=false):zA_ b a=true:=by
 have h1:¬ (zA_ a b=true):=by rw [h];decide
 have h2:¬ (zn_ a b=true):=by rw [h'];decide
 rw [yY_] at h1 ⊢
 rw [y6_] at h2
 omega
theorem amg_ {a b r:Rcd} (h:zn_ a b=true):zA_ a r=zA_ b r∧zA_ r a=zA_ r b:=by
 rw [y6_] at h
 constructor
 ·rw [Bool.eq_iff_iff,yY_,yY_];omega
 ·rw [Bool.eq_iff_iff,yY_,yY_];omega
theorem aId_ {s:List Rcd} (h:ascB zV_ zA_ s=true):yQ_ s:=by
 have h:=allB_iff.1 h
 rw [yQ_,List.pairwise_iff_getElem]
 have step:∀ i,(hi:i+1 < s.length)→zA_ s[i] s[i+1]=true:=by
  intro i hi
  have:=h (i+1) hi
  simp only [Bool.and_eq_true,Bool.or_eq_true,Bool.not_eq_true',decide_eq_false_iff_not] at this
  have h2:=this.2.resolve_left (by omega)
  rwa [show (((i+1:Nat):Int) - 1)=(i:Int) by omega,zm_ (by omega),zm_ hi] at h2
 intro i j hi hj hij
 obtain ⟨d,rfl⟩:∃ d,j=i+1+d:=⟨j - i - 1,by omega⟩
 clear hij
 induction d with
 | zero=>exact step i (by omega)
 | succ d ih=>exact kY_ (ih (by omega)) (step (i+1+d) (by omega))
theorem qI_ {s:List Rcd} (h:zk_ s=true):yQ_ s:=by
 simp only [zk_,Bool.and_eq_true] at h;exact aId_ h.2
theorem u1_ {s:List Rcd} (h:yQ_ s) (r:Rcd):yQ_ (putR s r):=by
 unfold putR yQ_
 rw [List.pairwise_append]
 refine ⟨h.filter _,?_,?_⟩
 ·rw [List.pairwise_append]
  refine ⟨by simp,h.filter _,?_⟩
  intro a ha b hb
  rw [List.mem_singleton] at ha
  subst ha
  exact (List.mem_filter.1 hb).2
 ·intro a ha b hb
  have ha:=(List.mem_filter.1 ha).2
  rcases List.mem_append.1 hb with hb | hb
  ·rw [List.mem_singleton] at hb
   subst hb;exact ha
  ·exact kY_ ha (List.mem_filter.1 hb).2
theorem auj_ (s:List Rcd) (r:Rcd):(putR s r).length≤s.length+1:=by
 unfold putR
 have:(s.filter (fun x=>zA_ x r)).length+(s.filter (fun x=>zA_ r x)).length≤s.length:=by
  induction s with
  | nil=>simp
  | cons x s ih =>
   simp only [List.filter_cons]
   cases h:zA_ x r with
   | true=>simp [aan_ h];omega
   | false=>cases h':zA_ r x <;> simp <;> omega
 simp;omega
theorem uD_ {s:List Rcd} {r x:Rcd} (h:x∈putR s r):x=r∨x∈s:=by
 unfold putR at h
 rcases List.mem_append.1 h with h | h
 ·exact .inr (List.mem_filter.1 h).1
 ·rcases List.mem_append.1 h with h | h
  ·exact .inl (List.mem_singleton.1 h)
  ·exact .inr (List.mem_filter.1 h).1
theorem ar5_ {s:List Rcd} {r:Rcd} (h:NearL s) (hr:r.near.length≤1048576):NearL (putR s r):=fun x hx=>by
 rcases uD_ hx with rfl | hx
 ·exact hr
 ·exact h x hx
def yl_ (s:List Rcd) (r:Rcd):Nat:=(s.filter (fun x=>zA_ x r)).length
theorem aK8_ (s:List Rcd) (r:Rcd):yl_ s r≤s.length:=List.length_filter_le _ _
theorem ak8_ {s:List Rcd} (h:yQ_ s) (r:Rcd):s.take (yl_ s r)=s.filter (fun x=>zA_ x r)∧(∀ i,(hi:i < s.length)→(zA_ s[i] r=true↔i < yl_ s r)):=by
 induction s with
 | nil=>simp [yl_]
 | cons x s ih =>
  have hs:=List.pairwise_cons.1 h
  have ih:=ih hs.2
  cases hx:zA_ x r with
  | true =>
   have e:yl_ (x :: s) r=yl_ s r+1:=by simp [yl_,List.filter_cons,hx]
   rw [e]
   refine ⟨by rw [List.take_succ_cons,ih.1,List.filter_cons,hx];rfl,fun i hi=>?_⟩
   cases i with
   | zero=>simp [hx]
   | succ i =>
    rw [List.getElem_cons_succ]
    have:=ih.2 i (by simpa using hi)
    rw [this];omega
  | false =>
   have none:∀ y∈s,zA_ y r=false:=by
    intro y hy
    cases hyr:zA_ y r with
    | false=>rfl
    | true=>rw [kY_ (hs.1 y hy) hyr] at hx;cases hx
   have e:(x :: s).filter (fun x=>zA_ x r)=[]:=by
    rw [List.filter_eq_nil_iff]
    intro y hy
    rcases List.mem_cons.1 hy with rfl | hy
    ·rw [hx];decide
    ·rw [none y hy];decide
   have e2:yl_ (x :: s) r=0:=by unfold yl_;rw [e];rfl
   rw [e2,e]
   refine ⟨rfl,fun i hi=>⟨fun h3=>?_,fun h3=>absurd h3 (by omega)⟩⟩
   cases i with
   | zero=>rw [List.getElem_cons_zero,hx] at h3;cases h3
   | succ i=>rw [List.getElem_cons_succ,none _ (List.getElem_mem _)] at h3;cases h3
theorem atk_ {s:List Rcd} (h:yQ_ s) (r:Rcd):s.drop (yl_ s r+(if yl_ s r < s.length∧zn_ (gt s (yl_ s r:Nat)) r=true then 1 else 0))=s.filter (fun x=>zA_ r x):=by
 have hsp:=ak8_ h r
 have h1:s.filter (fun x=>zA_ r x)=(s.drop (yl_ s r)).filter (fun x=>zA_ r x):=by
  have e0:s.filter (fun x=>zA_ r x)=(s.take (yl_ s r)++s.drop (yl_ s r)).filter (fun x=>zA_ r x):=by rw [List.take_append_drop]
  rw [e0,List.filter_append,hsp.1]
  have e:(List.filter (fun x=>zA_ x r) s).filter (fun x=>zA_ r x)=[]:=by
   rw [List.filter_eq_nil_iff]
   intro y hy
   rw [aan_ (List.mem_filter.1 hy).2];decide
  rw [e,List.nil_append]
 rw [h1]
 have hd:∀ x∈s.drop (yl_ s r),zA_ x r=false:=by
  intro x hx
  obtain ⟨i,hi,rfl⟩:=List.mem_iff_getElem.1 hx
  rw [List.getElem_drop]
  cases hc:zA_ (s[yl_ s r+i]'(by simp at hi;omega)) r with
  | false=>rfl
  | true=>have:=(hsp.2 _ (by simp at hi;omega)).1 hc;omega
 have hp:yQ_ (s.drop (yl_ s r)):=h.drop
 by_cases hlt:yl_ s r < s.length
 ·have hg:=zm_ hlt
  rw [hg]
  rw [List.drop_eq_getElem_cons hlt] at hd hp ⊢
  have hps:=List.pairwise_cons.1 hp
  by_cases hk:zn_ s[yl_ s r] r=true
  ·rw [if_pos ⟨hlt,hk⟩,List.filter_cons,(amg_ hk).2 ▸ ad2_ r |> fun (e:zA_ r s[yl_ s r]=false)=>e,if_neg (by decide)]
   refine (List.filter_eq_self.2 fun x hx=>?_).symm
   rw [← (amg_ hk).1]
   exact hps.1 x hx
  ·rw [if_neg (by simp [hk]),Nat.add_zero,List.drop_eq_getElem_cons hlt]
   refine (List.filter_eq_self.2 fun x hx=>?_).symm
   have h0:=asp_ (hd _ (.head _)) (by simpa using hk)
   rcases List.mem_cons.1 hx with rfl | hx
   ·exact h0
   ·exact kY_ h0 (hps.1 x hx)
 ·rw [List.drop_eq_nil_iff.2 (by omega),List.drop_eq_nil_iff.2 (by omega)]
  rfl
theorem NearL.take {s:List Rcd} (h:NearL s) (n:Nat):NearL (s.take n):=fun r hr=>h r (List.mem_of_mem_take hr)
theorem NearL.drop {s:List Rcd} (h:NearL s) (n:Nat):NearL (s.drop n):=fun r hr=>h r (List.mem_of_mem_drop hr)
theorem qS_ {β σ:Type} {F:(σ→Option β)→σ→Option β} {R:Nat} {x:σ} (st:Nat→σ) (n:Nat) {out:Option β} (hx:x=st 0) (hR:n < R) (step:∀ i:Nat,(i:Int) < (n:Int)→∀ s,F s (st i)=s (st (i+1))) (fin:∀ s,F s (st n)=out):iter F R x=out:=by
 have:=wn_ (F:=F) (R:=R) (x:=x) n st (fun _=>true) (outT:=out) (outF:=out) hx hR (fun i hi s=>by simpa using step i hi s) fin
 rw [this];simp
theorem qE_ (s:List Rcd) (a k o y q:Int) (l:List Near) (c:Int) (f:Bool) (h:s.length≤1048570) (hn:NearL s) (hs:yQ_ s) (hl:l.length≤1048576) :
  x0_ [.l (s.map eRcd),ii a,ii k,ii o,ii y,ii q,.l (l.map zE_),ii c,bb f]=some [.l ((putR s ⟨a,k,o,y,q,l,c,f⟩).map eRcd)]:=by
 obtain ⟨r,hr⟩:∃ r:Rcd,r=⟨a,k,o,y,q,l,c,f⟩:=⟨_,rfl⟩
 have hle:=aK8_ s r
 have hsp:=ak8_ hs r
 have hbe:=atk_ hs r
 rw [aPy_];simp (disch:=omega) only [↓pq,ps,pz,↓reduceIte,reduceLE,reduceLT,reduceEq,reduceGT,reduceGE,reduceAdd,reduceSub,reduceMul,reduceNeg,uE_,aql_]
 refine qS_ (fun i=>[ii i]) (yl_ s r) rfl (zb_ (by omega)) ?_ ?_
 ·intro i hi w
  have hi':(i:Int) < s.length:=by omega
  have hb:zA_ (gt s i) r=true:=by rw [zm_ (by omega)];exact (hsp.2 i (by omega)).2 (by omega)
  have hb':zA_ ⟨(gt s i).area,(gt s i).kind,(gt s i).owner,(gt s i).key,0,[],0,false⟩ ⟨a,k,o,y,0,[],0,false⟩=true:=by rw [← hb,hr];rfl
  simp (disch:=omega) only [↓pq,ps,pz,↓reduceIte,reduceLE,reduceLT,reduceEq,reduceGT,reduceGE,reduceAdd,reduceSub,reduceMul,reduceNeg,uE_,hi',ah5_,hb']
 ·intro w
  have ht:((yl_ s r:Nat):Int).toNat=yl_ s r:=Int.toNat_natCast _
  have hl1:(s.take (yl_ s r)).length≤1048570:=by simp;omega
  by_cases hlt:yl_ s r < s.length
  ·have hi':((yl_ s r:Nat):Int) < s.length:=by omega
   have hb:zA_ (gt s (yl_ s r:Nat)) r=false:=by
    rw [zm_ hlt]
    cases hc:zA_ s[yl_ s r] r with
    | false=>rfl
    | true=>have:=(hsp.2 _ hlt).1 hc;omega
   have hb':zA_ ⟨(gt s (yl_ s r:Nat)).area,(gt s (yl_ s r:Nat)).kind,(gt s (yl_ s r:Nat)).owner,(gt s (yl_ s r:Nat)).key,0,[],0,false⟩ ⟨a,k,o,y,0,[],0,false⟩=false:=by rw [← hb,hr];rfl
   have hk':zn_ ⟨(gt s (yl_ s r:Nat)).area,(gt s (yl_ s r:Nat)).kind,(gt s (yl_ s r:Nat)).owner,(gt s (yl_ s r:Nat)).key,0,[],0,false⟩ ⟨a,k,o,y,0,[],0,false⟩=zn_ (gt s (yl_ s r:Nat)) r:=by rw [hr];rfl
   simp (disch:=omega) only [↓pq,ps,pz,↓reduceIte,reduceLE,reduceLT,reduceEq,reduceGT,reduceGE,reduceAdd,reduceSub,reduceMul,reduceNeg,uE_,hi',ah5_,hb',ht,wr_ _ (show (s.take (yl_ s r)).length≤1048576 by omega) (hn.take _),kQ_,aeh_,hk',Bool.false_eq_true]
   cases hk:zn_ (gt s (yl_ s r:Nat)) r with
   | true =>
    have ht2:(((yl_ s r:Nat):Int)+1).toNat=yl_ s r+1:=by omega
    have hd:=wr_ (s.drop (yl_ s r+1)) (by simp;omega) (hn.drop _)
    rw [if_pos ⟨hlt,hk⟩] at hbe
    simp only [if_true]
    simp (disch:=omega) only [↓pq,ps,pz,↓reduceIte,reduceLE,reduceLT,reduceEq,reduceGT,reduceGE,reduceAdd,reduceSub,reduceMul,reduceNeg,uE_,ht2,hd]
    rw [uM_ (by simp;omega),za_,hbe,hsp.1,← hr,List.append_assoc]
    rfl
   | false =>
    have hd:=wr_ (s.drop (yl_ s r)) (by simp;omega) (hn.drop _)
    rw [if_neg (by simp [hk]),Nat.add_zero] at hbe
    simp only [Bool.false_eq_true,if_false]
    simp (disch:=omega) only [↓pq,ps,pz,↓reduceIte,reduceLE,reduceLT,reduceEq,reduceGT,reduceGE,reduceAdd,reduceSub,reduceMul,reduceNeg,uE_,ht,hd]
    rw [uM_ (by simp;omega),za_,hbe,hsp.1,← hr,List.append_assoc]
    rfl
  ·have hi':¬ (((yl_ s r:Nat):Int) < s.length):=by omega
   have hd:=wr_ (s.drop (yl_ s r)) (by simp;omega) (hn.drop _)
   rw [if_neg (by simp [hlt]),Nat.add_zero] at hbe
   simp (disch:=omega) only [↓pq,ps,pz,↓reduceIte,reduceLE,reduceLT,reduceEq,reduceGT,reduceGE,reduceAdd,reduceSub,reduceMul,reduceNeg,uE_,hi',ht,wr_ _ (show (s.take (yl_ s r)).length≤1048576 by omega) (hn.take _),kQ_,hd]
   rw [uM_ (by simp;omega),za_,hbe,hsp.1,← hr,List.append_assoc]
   rfl
theorem abf_ (s:List Rcd) (a k o y q:Int) (l:List Near) (c:Int) (f:Bool) (h:s.length≤1048570) (hn:NearL s) (hl:l.length≤1048576) :
  xX_ [.l (s.map eRcd),ii a,ii k,ii o,ii y,ii q,.l (l.map zE_),ii c,bb f]=some [.l ((putR s ⟨a,k,o,y,q,l,c,f⟩).map eRcd)]:=by
 obtain ⟨r,hr⟩:∃ r:Rcd,r=⟨a,k,o,y,q,l,c,f⟩:=⟨_,rfl⟩
 have hb:∀ x:Rcd,zA_ ⟨x.area,x.kind,x.owner,x.key,0,[],0,false⟩ ⟨a,k,o,y,0,[],0,false⟩=zA_ x r:=fun x=>by rw [hr];rfl
 have hb':∀ x:Rcd,zA_ ⟨a,k,o,y,0,[],0,false⟩ ⟨x.area,x.kind,x.owner,x.key,0,[],0,false⟩=zA_ r x:=fun x=>by rw [hr];rfl
 rw [aFh_];simp (disch:=omega) only [↓pq,ps,pz,↓reduceIte,reduceLE,reduceLT,reduceEq,reduceGT,reduceGE,reduceAdd,reduceSub,reduceMul,reduceNeg,vp_,vq_,ain_]
 refine (zg_ s (fun i c=>[.l (c.map eRcd),ii i]) (fun c x=>if zA_ x r=true then c++[x] else c) (fun d=>some [T.l ((s.foldl (fun c x=>if zA_ r x=true then c++[x] else c) (d++[r])).map eRcd)]) [] (fun i c=>c.length≤i) rfl (zb_ (by omega)) (by simp) ?_ ?_).trans ?_
 ·intro i c hi hc
  refine ⟨by split <;> (try simp) <;> omega,fun w=>?_⟩
  have:=hn.gt (n:=i) (by omega) hi
  simp (disch:=omega) only [↓pq,ps,pz,↓reduceIte,reduceLE,reduceLT,reduceEq,reduceGT,reduceGE,reduceAdd,reduceSub,reduceMul,reduceNeg,vp_,vq_,hi,air_,hb]
  split <;> rfl
 ·intro d w hd
  simp (disch:=omega) only [↓pq,ps,pz,↓reduceIte,reduceLE,reduceLT,reduceEq,reduceGT,reduceGE,reduceAdd,reduceSub,reduceMul,reduceNeg,vp_,vq_,]
  rw [← hr]
  refine zg_ s (fun i c=>[.l (c.map eRcd),ii i]) (fun c x=>if zA_ r x=true then c++[x] else c) (fun c=>some [T.l (c.map eRcd)]) (d++[r]) (fun i c=>c.length≤d.length+1+i) rfl (zb_ (by omega)) (by simp) ?_ ?_
  ·intro i c hi hc
   refine ⟨by split <;> (try simp) <;> omega,fun w=>?_⟩
   have:=hn.gt (n:=i) (by omega) hi
   simp (disch:=omega) only [↓pq,ps,pz,↓reduceIte,reduceLE,reduceLT,reduceEq,reduceGT,reduceGE,reduceAdd,reduceSub,reduceMul,reduceNeg,vp_,vq_,hi,air_,hb']
   split <;> rfl
  ·intro c w hc
   simp (disch:=omega) only [↓pq,ps,pz,↓reduceIte,reduceLE,reduceLT,reduceEq,reduceGT,reduceGE,reduceAdd,reduceSub,reduceMul,reduceNeg,vp_,vq_,]
 ·rw [qw_,qw_,← hr]
  unfold putR
  simp
theorem aIg_ {s:List Rcd} {r:Rcd} {n:Nat} (h:s.length+1≤n):(putR s r).length≤n:=Nat.le_trans (auj_ s r) h
end Go.Proofs.YtiebbbmibbkpcaaGreatC
