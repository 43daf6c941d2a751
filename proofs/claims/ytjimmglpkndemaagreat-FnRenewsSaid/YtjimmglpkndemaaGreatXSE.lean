/- What the functions that look into stores and put into them compute. Conditions: none. -/
import Derived.Test.YtjimmglpkndemaaGreatXSD
namespace Go.Proofs.YtjimmglpkndemaaGreatC
open Int renaming reduceLE → Q0_, reduceLT → Q1_, reduceEq → Q2_, reduceGT → Q3_, reduceGE → Q4_, reduceAdd → Q5_, reduceSub → Q6_, reduceMul → Q7_, reduceNeg → Q8_
set_option linter.unusedVariables false
set_option linter.unusedSimpArgs false
theorem qu_ (s:List Rcd) (a k o y:Int) (t4 t5 t6 t7:T) (h:s.length≤1048576):xj_ [.l (s.map eRcd),ii a,ii k,ii o,ii y,t4,t5,t6,t7]=some [ii (zn_ (fun x=>zb_ x ⟨a,k,o,y,0,[],0,false⟩) s)]:=by
 rw [aIv_];simp (disch:=omega) only [↓pq,↓pj,ps,pz,↓reduceIte,Q0_,Q1_,Q2_,Q3_,Q4_,Q5_,Q6_,Q7_,Q8_,kh_,aj2_]
 refine (vx_ s (fun i=>[ii 0,ii i]) (fun x=>zb_ x ⟨a,k,o,y,0,[],0,false⟩) (fun i=>some [ii i]) (outN:=some [ii (-1)]) rfl (za_ h) ?_ ?_).trans (ain_ _ _)
 ·intro i hi q
  simp (disch:=omega) only [↓pq,↓pj,ps,pz,↓reduceIte,Q0_,Q1_,Q2_,Q3_,Q4_,Q5_,Q6_,Q7_,Q8_,kh_,hi,aef_]
  rfl
 ·intro q
  simp (disch:=omega) only [↓pq,↓pj,ps,pz,↓reduceIte,Q0_,Q1_,Q2_,Q3_,Q4_,Q5_,Q6_,Q7_,Q8_,kh_,]
theorem k2_ (s:List Rcd) (a k o y:Int) (t4 t5 t6 t7:T) (h:s.length≤1048576):xU_ [.l (s.map eRcd),ii a,ii k,ii o,ii y,t4,t5,t6,t7]=some [ii (zn_ (fun x=>zb_ x ⟨a,k,o,y,0,[],0,false⟩) s)]:=by
 rw [aG2_];simp (disch:=omega) only [↓pq,↓pj,ps,pz,↓reduceIte,Q0_,Q1_,Q2_,Q3_,Q4_,Q5_,Q6_,Q7_,Q8_,ki_,ajg_]
 refine (vx_ s (fun i=>[ii 0,ii i]) (fun x=>zb_ x ⟨a,k,o,y,0,[],0,false⟩) (fun i=>some [ii i]) (outN:=some [ii (-1)]) rfl (za_ h) ?_ ?_).trans (ain_ _ _)
 ·intro i hi q
  simp (disch:=omega) only [↓pq,↓pj,ps,pz,↓reduceIte,Q0_,Q1_,Q2_,Q3_,Q4_,Q5_,Q6_,Q7_,Q8_,ki_,hi,aep_]
  rfl
 ·intro q
  simp (disch:=omega) only [↓pq,↓pj,ps,pz,↓reduceIte,Q0_,Q1_,Q2_,Q3_,Q4_,Q5_,Q6_,Q7_,Q8_,ki_,]
def keyP (s:List Rcd) (r:Rcd):Int:=zn_ (fun x=>zb_ x r) s
theorem jw_ (s:List Rcd) (r:Rcd):zn_ (fun x=>zb_ x ⟨r.area,r.kind,r.owner,r.key,0,[],0,false⟩) s=keyP s r:=rfl
theorem wu_ (s:List Rcd) (h:s.length≤1048576) (hn:NearL s):y4_ [.l (s.map eRcd)]=some [.l (s.map eRcd)]:=by
 rw [amz_];simp (disch:=omega) only [↓pq,↓pj,ps,pz,↓reduceIte,Q0_,Q1_,Q2_,Q3_,Q4_,Q5_,Q6_,Q7_,Q8_,vS_,j3_]
 refine (zj_ s (fun i c=>[.l (c.map eRcd),ii i]) (fun c a=>c++[id a]) (fun c=>some [T.l (c.map eRcd)]) [] (fun i c=>c.length≤i) rfl (za_ h) (by simp) ?_ ?_).trans (show some [T.l ((s.foldl (fun c a=>c++[id a]) []).map eRcd)]=some [T.l (s.map eRcd)] by rw [foldl_map];simp)
 ·intro i c hi hc
  refine ⟨by simp;omega,fun k=>?_⟩
  have:=hn.gt (n:=i) (by omega) hi
  simp (disch:=omega) only [↓pq,↓pj,ps,pz,↓reduceIte,Q0_,Q1_,Q2_,Q3_,Q4_,Q5_,Q6_,Q7_,Q8_,vS_,hi,kp_]
  rfl
 ·intro c k hc
  simp (disch:=omega) only [↓pq,↓pj,ps,pz,↓reduceIte,Q0_,Q1_,Q2_,Q3_,Q4_,Q5_,Q6_,Q7_,Q8_,vS_,]
theorem va_ (s:List Rcd) (h:s.length≤1048576) (hn:NearL s):z8_ [.l (s.map eRcd)]=some [.l (s.map eRcd)]:=by
 rw [aoe_];simp (disch:=omega) only [↓pq,↓pj,ps,pz,↓reduceIte,Q0_,Q1_,Q2_,Q3_,Q4_,Q5_,Q6_,Q7_,Q8_,vU_,j7_]
 refine (zj_ s (fun i c=>[.l (c.map eRcd),ii i]) (fun c a=>c++[id a]) (fun c=>some [T.l (c.map eRcd)]) [] (fun i c=>c.length≤i) rfl (za_ h) (by simp) ?_ ?_).trans (show some [T.l ((s.foldl (fun c a=>c++[id a]) []).map eRcd)]=some [T.l (s.map eRcd)] by rw [foldl_map];simp)
 ·intro i c hi hc
  refine ⟨by simp;omega,fun k=>?_⟩
  have:=hn.gt (n:=i) (by omega) hi
  simp (disch:=omega) only [↓pq,↓pj,ps,pz,↓reduceIte,Q0_,Q1_,Q2_,Q3_,Q4_,Q5_,Q6_,Q7_,Q8_,vU_,hi,kQ_]
  rfl
 ·intro c k hc
  simp (disch:=omega) only [↓pq,↓pj,ps,pz,↓reduceIte,Q0_,Q1_,Q2_,Q3_,Q4_,Q5_,Q6_,Q7_,Q8_,vU_,]
def putR (s:List Rcd) (r:Rcd):List Rcd:=s.filter (fun x=>zx_ x r)++([r]++s.filter (fun x=>zx_ r x))
abbrev zG_ (s:List Rcd):Prop:=s.Pairwise fun a b=>zx_ a b=true
theorem kJ_ {a b c:Rcd} (h:zx_ a b=true) (h':zx_ b c=true):zx_ a c=true:=by rw [yp_] at *;omega
theorem adg_ (a:Rcd):zx_ a a=false:=by
 cases h:zx_ a a with
 | false=>rfl
 | true=>rw [yp_] at h;omega
theorem k1_ {a b:Rcd} (h:zx_ a b=true):zx_ b a=false:=by
 cases h':zx_ b a with
 | false=>rfl
 | true=>rw [yp_] at *;omega
theorem un_ {a b:Rcd} (h:zx_ a b=true):zb_ a b=false:=by
 cases h':zb_ a b with
 | false=>rfl
 | true=>rw [yp_] at h;rw [sameKey_iff] at h';omega
theorem aq1_ {a b:Rcd} (h:zx_ a b=false) (h':zb_ a b=false):zx_ b a=true:=by
 have h1:¬ (zx_ a b=true):=by rw [h];decide
 have h2:¬ (zb_ a b=true):=by rw [h'];decide
 rw [yp_] at h1 ⊢
 rw [sameKey_iff] at h2
 omega
theorem alj_ {a b r:Rcd} (h:zb_ a b=true):zx_ a r=zx_ b r∧zx_ r a=zx_ r b:=by
 rw [sameKey_iff] at h
 constructor
 ·rw [Bool.eq_iff_iff,yp_,yp_];omega
 ·rw [Bool.eq_iff_iff,yp_,yp_];omega
theorem aIc_ {s:List Rcd} (h:ascB zE_ zx_ s=true):zG_ s:=by
 have h:=allB_iff.1 h
 rw [zG_,List.pairwise_iff_getElem]
 have step:∀ i,(hi:i+1 < s.length)→zx_ s[i] s[i+1]=true:=by
  intro i hi
  have:=h (i+1) hi
  simp only [bA_,Bool.or_eq_true,Bool.not_eq_true',decide_eq_false_iff_not] at this
  have h2:=this.2.resolve_left (by omega)
  rwa [show (((i+1:Nat):Int) - 1)=(i:Int) by omega,zm_ (by omega),zm_ hi] at h2
 intro i j hi hj hij
 obtain ⟨d,rfl⟩:∃ d,j=i+1+d:=⟨j - i - 1,by omega⟩
 clear hij
 induction d with
 | zero=>exact step i (by omega)
 | succ d ih=>exact kJ_ (ih (by omega)) (step (i+1+d) (by omega))
theorem yD_ {s:List Rcd} (h:ze_ s=true):zG_ s:=by
 simp only [ze_,bA_] at h;exact aIc_ h.2
theorem vt_ {s:List Rcd} (h:zG_ s) (r:Rcd):zG_ (putR s r):=by
 unfold putR zG_
 rw [List.pairwise_append]
 refine ⟨h.filter _,?_,?_⟩
 ·rw [List.pairwise_append]
  refine ⟨by simp,h.filter _,?_⟩
  intro a ha b hb
  rw [List.mem_singleton] at ha
  subst ha
  exact (List.mem_filter.1 hb).2
 ·intro a ha b hb
  have ha:=(List.mem_filter.1 ha).2
  rcases List.mem_append.1 hb with hb | hb
  ·rw [List.mem_singleton] at hb
   subst hb;exact ha
  ·exact kJ_ ha (List.mem_filter.1 hb).2
theorem agv_ (s:List Rcd) (r:Rcd):(putR s r).length≤s.length+1:=by
 unfold putR
 have:(s.filter (fun x=>zx_ x r)).length+(s.filter (fun x=>zx_ r x)).length≤s.length:=by
  induction s with
  | nil=>simp
  | cons x s ih =>
   simp only [List.filter_cons]
   cases h:zx_ x r with
   | true=>simp [k1_ h];omega
   | false=>cases h':zx_ r x <;> simp <;> omega
 simp;omega
theorem wA_ {s:List Rcd} {r x:Rcd} (h:x∈putR s r):x=r∨x∈s:=by
 unfold putR at h
 rcases List.mem_append.1 h with h | h
 ·exact .inr (List.mem_filter.1 h).1
 ·rcases List.mem_append.1 h with h | h
  ·exact .inl (List.mem_singleton.1 h)
  ·exact .inr (List.mem_filter.1 h).1
theorem aqx_ {s:List Rcd} {r:Rcd} (h:NearL s) (hr:r.near.length≤1048576):NearL (putR s r):=fun x hx=>by
 rcases wA_ hx with rfl | hx
 ·exact hr
 ·exact h x hx
def ym_ (s:List Rcd) (r:Rcd):Nat:=(s.filter (fun x=>zx_ x r)).length
theorem aKz_ (s:List Rcd) (r:Rcd):ym_ s r≤s.length:=List.length_filter_le _ _
theorem ajm_ {s:List Rcd} (h:zG_ s) (r:Rcd):s.take (ym_ s r)=s.filter (fun x=>zx_ x r)∧(∀ i,(hi:i < s.length)→(zx_ s[i] r=true↔i < ym_ s r)):=by
 induction s with
 | nil=>simp [ym_]
 | cons x s ih =>
  have hs:=List.pairwise_cons.1 h
  have ih:=ih hs.2
  cases hx:zx_ x r with
  | true =>
   have e:ym_ (x :: s) r=ym_ s r+1:=by simp [ym_,List.filter_cons,hx]
   rw [e]
   refine ⟨by rw [List.take_succ_cons,ih.1,List.filter_cons,hx];rfl,fun i hi=>?_⟩
   cases i with
   | zero=>simp [hx]
   | succ i =>
    rw [List.getElem_cons_succ]
    have:=ih.2 i (by simpa using hi)
    rw [this];omega
  | false =>
   have none:∀ y∈s,zx_ y r=false:=by
    intro y hy
    cases hyr:zx_ y r with
    | false=>rfl
    | true=>rw [kJ_ (hs.1 y hy) hyr] at hx;cases hx
   have e:(x :: s).filter (fun x=>zx_ x r)=[]:=by
    rw [List.filter_eq_nil_iff]
    intro y hy
    rcases List.mem_cons.1 hy with rfl | hy
    ·rw [hx];decide
    ·rw [none y hy];decide
   have e2:ym_ (x :: s) r=0:=by unfold ym_;rw [e];rfl
   rw [e2,e]
   refine ⟨rfl,fun i hi=>⟨fun h3=>?_,fun h3=>absurd h3 (by omega)⟩⟩
   cases i with
   | zero=>rw [List.getElem_cons_zero,hx] at h3;cases h3
   | succ i=>rw [List.getElem_cons_succ,none _ (List.getElem_mem _)] at h3;cases h3
theorem asi_ {s:List Rcd} (h:zG_ s) (r:Rcd):s.drop (ym_ s r+(if ym_ s r < s.length∧zb_ (gt s (ym_ s r:Nat)) r=true then 1 else 0))=s.filter (fun x=>zx_ r x):=by
 have hsp:=ajm_ h r
 have h1:s.filter (fun x=>zx_ r x)=(s.drop (ym_ s r)).filter (fun x=>zx_ r x):=by
  have e0:s.filter (fun x=>zx_ r x)=(s.take (ym_ s r)++s.drop (ym_ s r)).filter (fun x=>zx_ r x):=by rw [List.take_append_drop]
  rw [e0,List.filter_append,hsp.1]
  have e:(List.filter (fun x=>zx_ x r) s).filter (fun x=>zx_ r x)=[]:=by
   rw [List.filter_eq_nil_iff]
   intro y hy
   rw [k1_ (List.mem_filter.1 hy).2];decide
  rw [e,List.nil_append]
 rw [h1]
 have hd:∀ x∈s.drop (ym_ s r),zx_ x r=false:=by
  intro x hx
  obtain ⟨i,hi,rfl⟩:=List.mem_iff_getElem.1 hx
  rw [List.getElem_drop]
  cases hc:zx_ (s[ym_ s r+i]'(by simp at hi;omega)) r with
  | false=>rfl
  | true=>have:=(hsp.2 _ (by simp at hi;omega)).1 hc;omega
 have hp:zG_ (s.drop (ym_ s r)):=h.drop
 by_cases hlt:ym_ s r < s.length
 ·have hg:=zm_ hlt
  rw [hg]
  rw [List.drop_eq_getElem_cons hlt] at hd hp ⊢
  have hps:=List.pairwise_cons.1 hp
  by_cases hk:zb_ s[ym_ s r] r=true
  ·rw [if_pos ⟨hlt,hk⟩,List.filter_cons,(alj_ hk).2 ▸ adg_ r |> fun (e:zx_ r s[ym_ s r]=false)=>e,if_neg (by decide)]
   refine (List.filter_eq_self.2 fun x hx=>?_).symm
   rw [← (alj_ hk).1]
   exact hps.1 x hx
  ·rw [if_neg (by simp [hk]),Nat.add_zero,List.drop_eq_getElem_cons hlt]
   refine (List.filter_eq_self.2 fun x hx=>?_).symm
   have h0:=aq1_ (hd _ (.head _)) (by simpa using hk)
   rcases List.mem_cons.1 hx with rfl | hx
   ·exact h0
   ·exact kJ_ h0 (hps.1 x hx)
 ·rw [List.drop_eq_nil_iff.2 (by omega),List.drop_eq_nil_iff.2 (by omega)]
  rfl
theorem NearL.take {s:List Rcd} (h:NearL s) (n:Nat):NearL (s.take n):=fun r hr=>h r (List.mem_of_mem_take hr)
theorem NearL.drop {s:List Rcd} (h:NearL s) (n:Nat):NearL (s.drop n):=fun r hr=>h r (List.mem_of_mem_drop hr)
theorem wi_ {β σ:Type} {F:(σ→Option β)→σ→Option β} {R:Nat} {x:σ} (st:Nat→σ) (n:Nat) {out:Option β} (hx:x=st 0) (hR:n < R) (step:∀ i:Nat,(i:Int) < (n:Int)→∀ s,F s (st i)=s (st (i+1))) (fin:∀ s,F s (st n)=out):iter F R x=out:=by
 have:=w3_ (F:=F) (R:=R) (x:=x) n st (fun _=>true) (outT:=out) (outF:=out) hx hR (fun i hi s=>by simpa using step i hi s) fin
 rw [this];simp
theorem qL_ (s:List Rcd) (a k o y q:Int) (l:List Near) (c:Int) (f:Bool) (h:s.length≤1048570) (hn:NearL s) (hs:zG_ s) (hl:l.length≤1048576) :
  x6_ [.l (s.map eRcd),ii a,ii k,ii o,ii y,ii q,.l (l.map zu_),ii c,bb f]=some [.l ((putR s ⟨a,k,o,y,q,l,c,f⟩).map eRcd)]:=by
 obtain ⟨r,hr⟩:∃ r:Rcd,r=⟨a,k,o,y,q,l,c,f⟩:=⟨_,rfl⟩
 have hle:=aKz_ s r
 have hsp:=ajm_ hs r
 have hbe:=asi_ hs r
 rw [aN2_];simp (disch:=omega) only [↓pq,↓pj,ps,pz,↓reduceIte,Q0_,Q1_,Q2_,Q3_,Q4_,Q5_,Q6_,Q7_,Q8_,uJ_,ap5_]
 refine wi_ (fun i=>[ii i]) (ym_ s r) rfl (za_ (by omega)) ?_ ?_
 ·intro i hi w
  have hi':(i:Int) < s.length:=by omega
  have hb:zx_ (gt s i) r=true:=by rw [zm_ (by omega)];exact (hsp.2 i (by omega)).2 (by omega)
  have hb':zx_ ⟨(gt s i).area,(gt s i).kind,(gt s i).owner,(gt s i).key,0,[],0,false⟩ ⟨a,k,o,y,0,[],0,false⟩=true:=by rw [← hb,hr];rfl
  simp (disch:=omega) only [↓pq,↓pj,ps,pz,↓reduceIte,Q0_,Q1_,Q2_,Q3_,Q4_,Q5_,Q6_,Q7_,Q8_,uJ_,hi',agi_,hb']
 ·intro w
  have ht:((ym_ s r:Nat):Int).toNat=ym_ s r:=Int.toNat_natCast _
  have hl1:(s.take (ym_ s r)).length≤1048570:=by simp;omega
  by_cases hlt:ym_ s r < s.length
  ·have hi':((ym_ s r:Nat):Int) < s.length:=by omega
   have hb:zx_ (gt s (ym_ s r:Nat)) r=false:=by
    rw [zm_ hlt]
    cases hc:zx_ s[ym_ s r] r with
    | false=>rfl
    | true=>have:=(hsp.2 _ hlt).1 hc;omega
   have hb':zx_ ⟨(gt s (ym_ s r:Nat)).area,(gt s (ym_ s r:Nat)).kind,(gt s (ym_ s r:Nat)).owner,(gt s (ym_ s r:Nat)).key,0,[],0,false⟩ ⟨a,k,o,y,0,[],0,false⟩=false:=by rw [← hb,hr];rfl
   have hk':zb_ ⟨(gt s (ym_ s r:Nat)).area,(gt s (ym_ s r:Nat)).kind,(gt s (ym_ s r:Nat)).owner,(gt s (ym_ s r:Nat)).key,0,[],0,false⟩ ⟨a,k,o,y,0,[],0,false⟩=zb_ (gt s (ym_ s r:Nat)) r:=by rw [hr];rfl
   simp (disch:=omega) only [↓pq,↓pj,ps,pz,↓reduceIte,Q0_,Q1_,Q2_,Q3_,Q4_,Q5_,Q6_,Q7_,Q8_,uJ_,hi',agi_,hb',ht,wu_ _ (show (s.take (ym_ s r)).length≤1048576 by omega) (hn.take _),kp_,aef_,hk',bF_]
   cases hk:zb_ (gt s (ym_ s r:Nat)) r with
   | true =>
    have ht2:(((ym_ s r:Nat):Int)+1).toNat=ym_ s r+1:=by omega
    have hd:=wu_ (s.drop (ym_ s r+1)) (by simp;omega) (hn.drop _)
    rw [if_pos ⟨hlt,hk⟩] at hbe
    simp only [if_true]
    simp (disch:=omega) only [↓pq,↓pj,ps,pz,↓reduceIte,Q0_,Q1_,Q2_,Q3_,Q4_,Q5_,Q6_,Q7_,Q8_,uJ_,ht2,hd]
    rw [uR_ (by simp;omega),zd_,hbe,hsp.1,← hr,List.append_assoc]
    rfl
   | false =>
    have hd:=wu_ (s.drop (ym_ s r)) (by simp;omega) (hn.drop _)
    rw [if_neg (by simp [hk]),Nat.add_zero] at hbe
    simp only [bF_,if_false]
    simp (disch:=omega) only [↓pq,↓pj,ps,pz,↓reduceIte,Q0_,Q1_,Q2_,Q3_,Q4_,Q5_,Q6_,Q7_,Q8_,uJ_,ht,hd]
    rw [uR_ (by simp;omega),zd_,hbe,hsp.1,← hr,List.append_assoc]
    rfl
  ·have hi':¬ (((ym_ s r:Nat):Int) < s.length):=by omega
   have hd:=wu_ (s.drop (ym_ s r)) (by simp;omega) (hn.drop _)
   rw [if_neg (by simp [hlt]),Nat.add_zero] at hbe
   simp (disch:=omega) only [↓pq,↓pj,ps,pz,↓reduceIte,Q0_,Q1_,Q2_,Q3_,Q4_,Q5_,Q6_,Q7_,Q8_,uJ_,hi',ht,wu_ _ (show (s.take (ym_ s r)).length≤1048576 by omega) (hn.take _),kp_,hd]
   rw [uR_ (by simp;omega),zd_,hbe,hsp.1,← hr,List.append_assoc]
   rfl
theorem uL_ (s:List Rcd) (a k o y q:Int) (l:List Near) (c:Int) (f:Bool) (h:s.length≤1048570) (hn:NearL s) (hl:l.length≤1048576) :
  yS_ [.l (s.map eRcd),ii a,ii k,ii o,ii y,ii q,.l (l.map zu_),ii c,bb f]=some [.l ((putR s ⟨a,k,o,y,q,l,c,f⟩).map eRcd)]:=by
 obtain ⟨r,hr⟩:∃ r:Rcd,r=⟨a,k,o,y,q,l,c,f⟩:=⟨_,rfl⟩
 have hb:∀ x:Rcd,zx_ ⟨x.area,x.kind,x.owner,x.key,0,[],0,false⟩ ⟨a,k,o,y,0,[],0,false⟩=zx_ x r:=fun x=>by rw [hr];rfl
 have hb':∀ x:Rcd,zx_ ⟨a,k,o,y,0,[],0,false⟩ ⟨x.area,x.kind,x.owner,x.key,0,[],0,false⟩=zx_ r x:=fun x=>by rw [hr];rfl
 rw [aEg_];simp (disch:=omega) only [↓pq,↓pj,ps,pz,↓reduceIte,Q0_,Q1_,Q2_,Q3_,Q4_,Q5_,Q6_,Q7_,Q8_,vN_,vM_,agy_]
 refine (zj_ s (fun i c=>[.l (c.map eRcd),ii i]) (fun c x=>if zx_ x r=true then c++[x] else c) (fun d=>some [T.l ((s.foldl (fun c x=>if zx_ r x=true then c++[x] else c) (d++[r])).map eRcd)]) [] (fun i c=>c.length≤i) rfl (za_ (by omega)) (by simp) ?_ ?_).trans ?_
 ·intro i c hi hc
  refine ⟨by split <;> (try simp) <;> omega,fun w=>?_⟩
  have:=hn.gt (n:=i) (by omega) hi
  simp (disch:=omega) only [↓pq,↓pj,ps,pz,↓reduceIte,Q0_,Q1_,Q2_,Q3_,Q4_,Q5_,Q6_,Q7_,Q8_,vN_,vM_,hi,ahn_,hb]
  split <;> rfl
 ·intro d w hd
  simp (disch:=omega) only [↓pq,↓pj,ps,pz,↓reduceIte,Q0_,Q1_,Q2_,Q3_,Q4_,Q5_,Q6_,Q7_,Q8_,vN_,vM_,]
  rw [← hr]
  refine zj_ s (fun i c=>[.l (c.map eRcd),ii i]) (fun c x=>if zx_ r x=true then c++[x] else c) (fun c=>some [T.l (c.map eRcd)]) (d++[r]) (fun i c=>c.length≤d.length+1+i) rfl (za_ (by omega)) (by simp) ?_ ?_
  ·intro i c hi hc
   refine ⟨by split <;> (try simp) <;> omega,fun w=>?_⟩
   have:=hn.gt (n:=i) (by omega) hi
   simp (disch:=omega) only [↓pq,↓pj,ps,pz,↓reduceIte,Q0_,Q1_,Q2_,Q3_,Q4_,Q5_,Q6_,Q7_,Q8_,vN_,vM_,hi,ahn_,hb']
   split <;> rfl
  ·intro c w hc
   simp (disch:=omega) only [↓pq,↓pj,ps,pz,↓reduceIte,Q0_,Q1_,Q2_,Q3_,Q4_,Q5_,Q6_,Q7_,Q8_,vN_,vM_,]
 ·rw [ww_,ww_,← hr]
  unfold putR
  simp
theorem aGj_ {s:List Rcd} {r:Rcd} {n:Nat} (h:s.length+1≤n):(putR s r).length≤n:=Nat.le_trans (agv_ s r) h
end Go.Proofs.YtjimmglpkndemaaGreatC
