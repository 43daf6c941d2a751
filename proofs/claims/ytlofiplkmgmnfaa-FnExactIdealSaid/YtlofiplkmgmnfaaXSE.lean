/- What the functions that look into stores and put into them compute. Conditions: none. -/
import Derived.Test.YtlofiplkmgmnfaaXSD
namespace Go.Proofs.YtlofiplkmgmnfaaC
open Int (reduceLE reduceLT reduceEq reduceGT reduceGE reduceAdd reduceSub reduceMul reduceNeg)
set_option linter.unusedVariables false
set_option linter.unusedSimpArgs false
theorem e_i_keyAt (s:List Rcd) (a k o y:Int) (t4 t5 t6 t7:T) (h:s.length≤1048576):F_i_keyAt [.l (s.map eRcd),ii a,ii k,ii o,ii y,t4,t5,t6,t7]=some [ii (findP (fun x=>sameKey x ⟨a,k,o,y,0,[],0,false⟩) s)]:=by
 rw [g_i_keyAt];simp (disch:=omega) only [↓pq,↓pj,ps,pz,↓reduceIte,reduceLE,reduceLT,reduceEq,reduceGT,reduceGE,reduceAdd,reduceSub,reduceMul,reduceNeg,G_i_keyAt_l0,G_i_keyAt]
 refine (iter_findPx s (fun i=>[ii 0,ii i]) (fun x=>sameKey x ⟨a,k,o,y,0,[],0,false⟩) (fun i=>some [ii i]) (outN:=some [ii (-1)]) rfl (rounds_lt h) ?_ ?_).trans (findP_ite _ _)
 ·intro i hi q
  simp (disch:=omega) only [↓pq,↓pj,ps,pz,↓reduceIte,reduceLE,reduceLT,reduceEq,reduceGT,reduceGE,reduceAdd,reduceSub,reduceMul,reduceNeg,G_i_keyAt_l0,hi,e_i_SameKey]
  rfl
 ·intro q
  simp (disch:=omega) only [↓pq,↓pj,ps,pz,↓reduceIte,reduceLE,reduceLT,reduceEq,reduceGT,reduceGE,reduceAdd,reduceSub,reduceMul,reduceNeg,G_i_keyAt_l0,]
theorem e_s_l05At (s:List Rcd) (a k o y:Int) (t4 t5 t6 t7:T) (h:s.length≤1048576):F_s_l05At [.l (s.map eRcd),ii a,ii k,ii o,ii y,t4,t5,t6,t7]=some [ii (findP (fun x=>sameKey x ⟨a,k,o,y,0,[],0,false⟩) s)]:=by
 rw [g_s_l05At];simp (disch:=omega) only [↓pq,↓pj,ps,pz,↓reduceIte,reduceLE,reduceLT,reduceEq,reduceGT,reduceGE,reduceAdd,reduceSub,reduceMul,reduceNeg,G_s_l05At_l0,G_s_l05At]
 refine (iter_findPx s (fun i=>[ii 0,ii i]) (fun x=>sameKey x ⟨a,k,o,y,0,[],0,false⟩) (fun i=>some [ii i]) (outN:=some [ii (-1)]) rfl (rounds_lt h) ?_ ?_).trans (findP_ite _ _)
 ·intro i hi q
  simp (disch:=omega) only [↓pq,↓pj,ps,pz,↓reduceIte,reduceLE,reduceLT,reduceEq,reduceGT,reduceGE,reduceAdd,reduceSub,reduceMul,reduceNeg,G_s_l05At_l0,hi,e_s_SameKey]
  rfl
 ·intro q
  simp (disch:=omega) only [↓pq,↓pj,ps,pz,↓reduceIte,reduceLE,reduceLT,reduceEq,reduceGT,reduceGE,reduceAdd,reduceSub,reduceMul,reduceNeg,G_s_l05At_l0,]
def keyP (s:List Rcd) (r:Rcd):Int:=findP (fun x=>sameKey x r) s
theorem e_i_copyRecords (s:List Rcd) (h:s.length≤1048576) (hn:NearL s):F_i_copyRecords [.l (s.map eRcd)]=some [.l (s.map eRcd)]:=by
 rw [g_i_copyRecords];simp (disch:=omega) only [↓pq,↓pj,ps,pz,↓reduceIte,reduceLE,reduceLT,reduceEq,reduceGT,reduceGE,reduceAdd,reduceSub,reduceMul,reduceNeg,G_i_copyRecords_l0,G_i_copyRecords]
 refine (iter_foldlx s (fun i c=>[.l (c.map eRcd),ii i]) (fun c a=>c++[id a]) (fun c=>some [T.l (c.map eRcd)]) [] (fun i c=>c.length≤i) rfl (rounds_lt h) (by simp) ?_ ?_).trans (show some [T.l ((s.foldl (fun c a=>c++[id a]) []).map eRcd)]=some [T.l (s.map eRcd)] by rw [foldl_map];simp)
 ·intro i c hi hc
  refine ⟨by simp;omega,fun k=>?_⟩
  have:=hn.gt (n:=i) (by omega) hi
  simp (disch:=omega) only [↓pq,↓pj,ps,pz,↓reduceIte,reduceLE,reduceLT,reduceEq,reduceGT,reduceGE,reduceAdd,reduceSub,reduceMul,reduceNeg,G_i_copyRecords_l0,hi,e_i_copyRecord]
  rfl
 ·intro c k hc
  simp (disch:=omega) only [↓pq,↓pj,ps,pz,↓reduceIte,reduceLE,reduceLT,reduceEq,reduceGT,reduceGE,reduceAdd,reduceSub,reduceMul,reduceNeg,G_i_copyRecords_l0,]
theorem e_s_l04CopyList (s:List Rcd) (h:s.length≤1048576) (hn:NearL s):F_s_l04CopyList [.l (s.map eRcd)]=some [.l (s.map eRcd)]:=by
 rw [g_s_l04CopyList];simp (disch:=omega) only [↓pq,↓pj,ps,pz,↓reduceIte,reduceLE,reduceLT,reduceEq,reduceGT,reduceGE,reduceAdd,reduceSub,reduceMul,reduceNeg,G_s_l04CopyList_l0,G_s_l04CopyList]
 refine (iter_foldlx s (fun i c=>[.l (c.map eRcd),ii i]) (fun c a=>c++[id a]) (fun c=>some [T.l (c.map eRcd)]) [] (fun i c=>c.length≤i) rfl (rounds_lt h) (by simp) ?_ ?_).trans (show some [T.l ((s.foldl (fun c a=>c++[id a]) []).map eRcd)]=some [T.l (s.map eRcd)] by rw [foldl_map];simp)
 ·intro i c hi hc
  refine ⟨by simp;omega,fun k=>?_⟩
  have:=hn.gt (n:=i) (by omega) hi
  simp (disch:=omega) only [↓pq,↓pj,ps,pz,↓reduceIte,reduceLE,reduceLT,reduceEq,reduceGT,reduceGE,reduceAdd,reduceSub,reduceMul,reduceNeg,G_s_l04CopyList_l0,hi,e_s_l04Copy]
  rfl
 ·intro c k hc
  simp (disch:=omega) only [↓pq,↓pj,ps,pz,↓reduceIte,reduceLE,reduceLT,reduceEq,reduceGT,reduceGE,reduceAdd,reduceSub,reduceMul,reduceNeg,G_s_l04CopyList_l0,]
def putR (s:List Rcd) (r:Rcd):List Rcd:=s.filter (fun x=>recLt x r)++([r]++s.filter (fun x=>recLt r x))
abbrev Sorted (s:List Rcd):Prop:=s.Pairwise fun a b=>recLt a b=true
theorem recLt_trans {a b c:Rcd} (h:recLt a b=true) (h':recLt b c=true):recLt a c=true:=by rw [recLt_iff] at *;omega
theorem recLt_irr (a:Rcd):recLt a a=false:=by
 cases h:recLt a a with
 | false=>rfl
 | true=>rw [recLt_iff] at h;omega
theorem recLt_not {a b:Rcd} (h:recLt a b=true):recLt b a=false:=by
 cases h':recLt b a with
 | false=>rfl
 | true=>rw [recLt_iff] at *;omega
theorem recLt_tri {a b:Rcd} (h:recLt a b=false) (h':sameKey a b=false):recLt b a=true:=by
 have h1:¬ (recLt a b=true):=by rw [h];decide
 have h2:¬ (sameKey a b=true):=by rw [h'];decide
 rw [recLt_iff] at h1 ⊢
 rw [sameKey_iff] at h2
 omega
theorem recLt_congr {a b r:Rcd} (h:sameKey a b=true):recLt a r=recLt b r∧recLt r a=recLt r b:=by
 rw [sameKey_iff] at h
 constructor
 ·rw [Bool.eq_iff_iff,recLt_iff,recLt_iff];omega
 ·rw [Bool.eq_iff_iff,recLt_iff,recLt_iff];omega
theorem putR_sorted {s:List Rcd} (h:Sorted s) (r:Rcd):Sorted (putR s r):=by
 unfold putR Sorted
 rw [List.pairwise_append]
 refine ⟨h.filter _,?_,?_⟩
 ·rw [List.pairwise_append]
  refine ⟨by simp,h.filter _,?_⟩
  intro a ha b hb
  rw [List.mem_singleton] at ha
  subst ha
  exact (List.mem_filter.1 hb).2
 ·intro a ha b hb
  have ha:=(List.mem_filter.1 ha).2
  rcases List.mem_append.1 hb with hb | hb
  ·rw [List.mem_singleton] at hb
   subst hb;exact ha
  ·exact recLt_trans ha (List.mem_filter.1 hb).2
theorem putR_len (s:List Rcd) (r:Rcd):(putR s r).length≤s.length+1:=by
 unfold putR
 have:(s.filter (fun x=>recLt x r)).length+(s.filter (fun x=>recLt r x)).length≤s.length:=by
  induction s with
  | nil=>simp
  | cons x s ih =>
   simp only [List.filter_cons]
   cases h:recLt x r with
   | true=>simp [recLt_not h];omega
   | false=>cases h':recLt r x <;> simp <;> omega
 simp;omega
theorem mem_putR {s:List Rcd} {r x:Rcd} (h:x∈putR s r):x=r∨x∈s:=by
 unfold putR at h
 rcases List.mem_append.1 h with h | h
 ·exact .inr (List.mem_filter.1 h).1
 ·rcases List.mem_append.1 h with h | h
  ·exact .inl (List.mem_singleton.1 h)
  ·exact .inr (List.mem_filter.1 h).1
theorem putR_near {s:List Rcd} {r:Rcd} (h:NearL s) (hr:r.near.length≤1048576):NearL (putR s r):=fun x hx=>by
 rcases mem_putR hx with rfl | hx
 ·exact hr
 ·exact h x hx
def ahead (s:List Rcd) (r:Rcd):Nat:=(s.filter (fun x=>recLt x r)).length
theorem ahead_le (s:List Rcd) (r:Rcd):ahead s r≤s.length:=List.length_filter_le _ _
theorem sorted_split {s:List Rcd} (h:Sorted s) (r:Rcd):s.take (ahead s r)=s.filter (fun x=>recLt x r)∧(∀ i,(hi:i < s.length)→(recLt s[i] r=true↔i < ahead s r)):=by
 induction s with
 | nil=>simp [ahead]
 | cons x s ih =>
  have hs:=List.pairwise_cons.1 h
  have ih:=ih hs.2
  cases hx:recLt x r with
  | true =>
   have e:ahead (x :: s) r=ahead s r+1:=by simp [ahead,List.filter_cons,hx]
   rw [e]
   refine ⟨by rw [List.take_succ_cons,ih.1,List.filter_cons,hx];rfl,fun i hi=>?_⟩
   cases i with
   | zero=>simp [hx]
   | succ i =>
    rw [List.getElem_cons_succ]
    have:=ih.2 i (by simpa using hi)
    rw [this];omega
  | false =>
   have none:∀ y∈s,recLt y r=false:=by
    intro y hy
    cases hyr:recLt y r with
    | false=>rfl
    | true=>rw [recLt_trans (hs.1 y hy) hyr] at hx;cases hx
   have e:(x :: s).filter (fun x=>recLt x r)=[]:=by
    rw [List.filter_eq_nil_iff]
    intro y hy
    rcases List.mem_cons.1 hy with rfl | hy
    ·rw [hx];decide
    ·rw [none y hy];decide
   have e2:ahead (x :: s) r=0:=by unfold ahead;rw [e];rfl
   rw [e2,e]
   refine ⟨rfl,fun i hi=>⟨fun h3=>?_,fun h3=>absurd h3 (by omega)⟩⟩
   cases i with
   | zero=>rw [List.getElem_cons_zero,hx] at h3;cases h3
   | succ i=>rw [List.getElem_cons_succ,none _ (List.getElem_mem _)] at h3;cases h3
theorem sorted_behind {s:List Rcd} (h:Sorted s) (r:Rcd):s.drop (ahead s r+(if ahead s r < s.length∧sameKey (gt s (ahead s r:Nat)) r=true then 1 else 0))=s.filter (fun x=>recLt r x):=by
 have hsp:=sorted_split h r
 have h1:s.filter (fun x=>recLt r x)=(s.drop (ahead s r)).filter (fun x=>recLt r x):=by
  have e0:s.filter (fun x=>recLt r x)=(s.take (ahead s r)++s.drop (ahead s r)).filter (fun x=>recLt r x):=by rw [List.take_append_drop]
  rw [e0,List.filter_append,hsp.1]
  have e:(List.filter (fun x=>recLt x r) s).filter (fun x=>recLt r x)=[]:=by
   rw [List.filter_eq_nil_iff]
   intro y hy
   rw [recLt_not (List.mem_filter.1 hy).2];decide
  rw [e,List.nil_append]
 rw [h1]
 have hd:∀ x∈s.drop (ahead s r),recLt x r=false:=by
  intro x hx
  obtain ⟨i,hi,rfl⟩:=List.mem_iff_getElem.1 hx
  rw [List.getElem_drop]
  cases hc:recLt (s[ahead s r+i]'(by simp at hi;omega)) r with
  | false=>rfl
  | true=>have:=(hsp.2 _ (by simp at hi;omega)).1 hc;omega
 have hp:Sorted (s.drop (ahead s r)):=h.drop
 by_cases hlt:ahead s r < s.length
 ·have hg:=gt_elem hlt
  rw [hg]
  rw [List.drop_eq_getElem_cons hlt] at hd hp ⊢
  have hps:=List.pairwise_cons.1 hp
  by_cases hk:sameKey s[ahead s r] r=true
  ·rw [if_pos ⟨hlt,hk⟩,List.filter_cons,(recLt_congr hk).2 ▸ recLt_irr r |> fun (e:recLt r s[ahead s r]=false)=>e,if_neg (by decide)]
   refine (List.filter_eq_self.2 fun x hx=>?_).symm
   rw [← (recLt_congr hk).1]
   exact hps.1 x hx
  ·rw [if_neg (by simp [hk]),Nat.add_zero,List.drop_eq_getElem_cons hlt]
   refine (List.filter_eq_self.2 fun x hx=>?_).symm
   have h0:=recLt_tri (hd _ (.head _)) (by simpa using hk)
   rcases List.mem_cons.1 hx with rfl | hx
   ·exact h0
   ·exact recLt_trans h0 (hps.1 x hx)
 ·rw [List.drop_eq_nil_iff.2 (by omega),List.drop_eq_nil_iff.2 (by omega)]
  rfl
theorem NearL.take {s:List Rcd} (h:NearL s) (n:Nat):NearL (s.take n):=fun r hr=>h r (List.mem_of_mem_take hr)
theorem NearL.drop {s:List Rcd} (h:NearL s) (n:Nat):NearL (s.drop n):=fun r hr=>h r (List.mem_of_mem_drop hr)
theorem iter_while {β σ:Type} {F:(σ→Option β)→σ→Option β} {R:Nat} {x:σ} (st:Nat→σ) (n:Nat) {out:Option β} (hx:x=st 0) (hR:n < R) (step:∀ i:Nat,(i:Int) < (n:Int)→∀ s,F s (st i)=s (st (i+1))) (fin:∀ s,F s (st n)=out):iter F R x=out:=by
 have:=iter_allx (F:=F) (R:=R) (x:=x) n st (fun _=>true) (outT:=out) (outF:=out) hx hR (fun i hi s=>by simpa using step i hi s) fin
 rw [this];simp
theorem e_i_put (s:List Rcd) (a k o y q:Int) (l:List Near) (c:Int) (f:Bool) (h:s.length≤1048570) (hn:NearL s) (hs:Sorted s) (hl:l.length≤1048576) :
  F_i_put [.l (s.map eRcd),ii a,ii k,ii o,ii y,ii q,.l (l.map eNear),ii c,bb f]=some [.l ((putR s ⟨a,k,o,y,q,l,c,f⟩).map eRcd)]:=by
 obtain ⟨r,hr⟩:∃ r:Rcd,r=⟨a,k,o,y,q,l,c,f⟩:=⟨_,rfl⟩
 have hle:=ahead_le s r
 have hsp:=sorted_split hs r
 have hbe:=sorted_behind hs r
 rw [g_i_put];simp (disch:=omega) only [↓pq,↓pj,ps,pz,↓reduceIte,reduceLE,reduceLT,reduceEq,reduceGT,reduceGE,reduceAdd,reduceSub,reduceMul,reduceNeg,G_i_put_l0,G_i_put]
 refine iter_while (fun i=>[ii i]) (ahead s r) rfl (rounds_lt (by omega)) ?_ ?_
 ·intro i hi w
  have hi':(i:Int) < s.length:=by omega
  have hb:recLt (gt s i) r=true:=by rw [gt_elem (by omega)];exact (hsp.2 i (by omega)).2 (by omega)
  have hb':recLt ⟨(gt s i).area,(gt s i).kind,(gt s i).owner,(gt s i).key,0,[],0,false⟩ ⟨a,k,o,y,0,[],0,false⟩=true:=by rw [← hb,hr];rfl
  simp (disch:=omega) only [↓pq,↓pj,ps,pz,↓reduceIte,reduceLE,reduceLT,reduceEq,reduceGT,reduceGE,reduceAdd,reduceSub,reduceMul,reduceNeg,G_i_put_l0,hi',e_i_Before,hb']
 ·intro w
  have ht:((ahead s r:Nat):Int).toNat=ahead s r:=Int.toNat_natCast _
  have hl1:(s.take (ahead s r)).length≤1048570:=by simp;omega
  by_cases hlt:ahead s r < s.length
  ·have hi':((ahead s r:Nat):Int) < s.length:=by omega
   have hb:recLt (gt s (ahead s r:Nat)) r=false:=by
    rw [gt_elem hlt]
    cases hc:recLt s[ahead s r] r with
    | false=>rfl
    | true=>have:=(hsp.2 _ hlt).1 hc;omega
   have hb':recLt ⟨(gt s (ahead s r:Nat)).area,(gt s (ahead s r:Nat)).kind,(gt s (ahead s r:Nat)).owner,(gt s (ahead s r:Nat)).key,0,[],0,false⟩ ⟨a,k,o,y,0,[],0,false⟩=false:=by rw [← hb,hr];rfl
   have hk':sameKey ⟨(gt s (ahead s r:Nat)).area,(gt s (ahead s r:Nat)).kind,(gt s (ahead s r:Nat)).owner,(gt s (ahead s r:Nat)).key,0,[],0,false⟩ ⟨a,k,o,y,0,[],0,false⟩=sameKey (gt s (ahead s r:Nat)) r:=by rw [hr];rfl
   simp (disch:=omega) only [↓pq,↓pj,ps,pz,↓reduceIte,reduceLE,reduceLT,reduceEq,reduceGT,reduceGE,reduceAdd,reduceSub,reduceMul,reduceNeg,G_i_put_l0,hi',e_i_Before,hb',ht,e_i_copyRecords _ (show (s.take (ahead s r)).length≤1048576 by omega) (hn.take _),e_i_copyRecord,e_i_SameKey,hk',Bool.false_eq_true]
   cases hk:sameKey (gt s (ahead s r:Nat)) r with
   | true =>
    have ht2:(((ahead s r:Nat):Int)+1).toNat=ahead s r+1:=by omega
    have hd:=e_i_copyRecords (s.drop (ahead s r+1)) (by simp;omega) (hn.drop _)
    rw [if_pos ⟨hlt,hk⟩] at hbe
    simp only [if_true]
    simp (disch:=omega) only [↓pq,↓pj,ps,pz,↓reduceIte,reduceLE,reduceLT,reduceEq,reduceGT,reduceGE,reduceAdd,reduceSub,reduceMul,reduceNeg,G_i_put_l0,ht2,hd]
    rw [app_Rcd_false (by simp;omega),bind_some',hbe,hsp.1,← hr,List.append_assoc]
    rfl
   | false =>
    have hd:=e_i_copyRecords (s.drop (ahead s r)) (by simp;omega) (hn.drop _)
    rw [if_neg (by simp [hk]),Nat.add_zero] at hbe
    simp only [Bool.false_eq_true,if_false]
    simp (disch:=omega) only [↓pq,↓pj,ps,pz,↓reduceIte,reduceLE,reduceLT,reduceEq,reduceGT,reduceGE,reduceAdd,reduceSub,reduceMul,reduceNeg,G_i_put_l0,ht,hd]
    rw [app_Rcd_false (by simp;omega),bind_some',hbe,hsp.1,← hr,List.append_assoc]
    rfl
  ·have hi':¬ (((ahead s r:Nat):Int) < s.length):=by omega
   have hd:=e_i_copyRecords (s.drop (ahead s r)) (by simp;omega) (hn.drop _)
   rw [if_neg (by simp [hlt]),Nat.add_zero] at hbe
   simp (disch:=omega) only [↓pq,↓pj,ps,pz,↓reduceIte,reduceLE,reduceLT,reduceEq,reduceGT,reduceGE,reduceAdd,reduceSub,reduceMul,reduceNeg,G_i_put_l0,hi',ht,e_i_copyRecords _ (show (s.take (ahead s r)).length≤1048576 by omega) (hn.take _),e_i_copyRecord,hd]
   rw [app_Rcd_false (by simp;omega),bind_some',hbe,hsp.1,← hr,List.append_assoc]
   rfl
theorem e_s_l05Put (s:List Rcd) (a k o y q:Int) (l:List Near) (c:Int) (f:Bool) (h:s.length≤1048570) (hn:NearL s) (hl:l.length≤1048576) :
  F_s_l05Put [.l (s.map eRcd),ii a,ii k,ii o,ii y,ii q,.l (l.map eNear),ii c,bb f]=some [.l ((putR s ⟨a,k,o,y,q,l,c,f⟩).map eRcd)]:=by
 obtain ⟨r,hr⟩:∃ r:Rcd,r=⟨a,k,o,y,q,l,c,f⟩:=⟨_,rfl⟩
 have hb:∀ x:Rcd,recLt ⟨x.area,x.kind,x.owner,x.key,0,[],0,false⟩ ⟨a,k,o,y,0,[],0,false⟩=recLt x r:=fun x=>by rw [hr];rfl
 have hb':∀ x:Rcd,recLt ⟨a,k,o,y,0,[],0,false⟩ ⟨x.area,x.kind,x.owner,x.key,0,[],0,false⟩=recLt r x:=fun x=>by rw [hr];rfl
 rw [g_s_l05Put];simp (disch:=omega) only [↓pq,↓pj,ps,pz,↓reduceIte,reduceLE,reduceLT,reduceEq,reduceGT,reduceGE,reduceAdd,reduceSub,reduceMul,reduceNeg,G_s_l05Put_l0,G_s_l05Put_l1,G_s_l05Put]
 refine (iter_foldlx s (fun i c=>[.l (c.map eRcd),ii i]) (fun c x=>if recLt x r=true then c++[x] else c) (fun d=>some [T.l ((s.foldl (fun c x=>if recLt r x=true then c++[x] else c) (d++[r])).map eRcd)]) [] (fun i c=>c.length≤i) rfl (rounds_lt (by omega)) (by simp) ?_ ?_).trans ?_
 ·intro i c hi hc
  refine ⟨by split <;> (try simp) <;> omega,fun w=>?_⟩
  have:=hn.gt (n:=i) (by omega) hi
  simp (disch:=omega) only [↓pq,↓pj,ps,pz,↓reduceIte,reduceLE,reduceLT,reduceEq,reduceGT,reduceGE,reduceAdd,reduceSub,reduceMul,reduceNeg,G_s_l05Put_l0,G_s_l05Put_l1,hi,e_s_Before,hb]
  split <;> rfl
 ·intro d w hd
  simp (disch:=omega) only [↓pq,↓pj,ps,pz,↓reduceIte,reduceLE,reduceLT,reduceEq,reduceGT,reduceGE,reduceAdd,reduceSub,reduceMul,reduceNeg,G_s_l05Put_l0,G_s_l05Put_l1,]
  rw [← hr]
  refine iter_foldlx s (fun i c=>[.l (c.map eRcd),ii i]) (fun c x=>if recLt r x=true then c++[x] else c) (fun c=>some [T.l (c.map eRcd)]) (d++[r]) (fun i c=>c.length≤d.length+1+i) rfl (rounds_lt (by omega)) (by simp) ?_ ?_
  ·intro i c hi hc
   refine ⟨by split <;> (try simp) <;> omega,fun w=>?_⟩
   have:=hn.gt (n:=i) (by omega) hi
   simp (disch:=omega) only [↓pq,↓pj,ps,pz,↓reduceIte,reduceLE,reduceLT,reduceEq,reduceGT,reduceGE,reduceAdd,reduceSub,reduceMul,reduceNeg,G_s_l05Put_l0,G_s_l05Put_l1,hi,e_s_Before,hb']
   split <;> rfl
  ·intro c w hc
   simp (disch:=omega) only [↓pq,↓pj,ps,pz,↓reduceIte,reduceLE,reduceLT,reduceEq,reduceGT,reduceGE,reduceAdd,reduceSub,reduceMul,reduceNeg,G_s_l05Put_l0,G_s_l05Put_l1,]
 ·rw [foldl_filter,foldl_filter,← hr]
  unfold putR
  simp
end Go.Proofs.YtlofiplkmgmnfaaC
