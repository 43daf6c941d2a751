/- FnLearns: what the plain programs say. Conditions: none. -/
import Derived.Test.YtlofiplkmgmnfaaXSDj
namespace Go.Proofs.YtlofiplkmgmnfaaC
open Int (reduceLE reduceLT reduceEq reduceGT reduceGE reduceAdd reduceSub reduceMul reduceNeg)
set_option linter.unusedVariables false
set_option linter.unusedSimpArgs false
def ys_FnLearns:List Ty:=[.sl yByte]
def newestR (l:List Rcd) (r:Rcd):Int:=l.foldl (fun c x=>if sameKey x r=true then (if x.seq > c then x.seq else c) else c) 0
theorem e_newest (l:List Rcd) (a k o y:Int) (t4 t5 t6 t7:T) (h:l.length≤1048576):F_newest [.l (l.map eRcd),ii a,ii k,ii o,ii y,t4,t5,t6,t7]=some [ii (newestR l ⟨a,k,o,y,0,[],0,false⟩)]:=by
 rw [g_newest];simp (disch:=omega) only [↓pq,↓pj,ps,pz,↓reduceIte,reduceLE,reduceLT,reduceEq,reduceGT,reduceGE,reduceAdd,reduceSub,reduceMul,reduceNeg,G_newest]
 refine iter_foldlx l (fun i c=>[ii c,ii i]) (fun c x=>if sameKey x ⟨a,k,o,y,0,[],0,false⟩=true then (if x.seq > c then x.seq else c) else c) (fun c=>some [ii c]) 0 (fun _ _=>True) rfl (rounds_lt h) trivial ?_ ?_
 ·intro i c hi _
  refine ⟨trivial,fun q=>?_⟩
  have e:=e_s_SameKey (gt l (i:Int)).area (gt l (i:Int)).kind (gt l (i:Int)).owner (gt l (i:Int)).key (ii (gt l (i:Int)).seq) (.l ((gt l (i:Int)).near.map eNear)) (ii (gt l (i:Int)).cost) (bb (gt l (i:Int)).far) a k o y t4 t5 t6 t7
  rw [show sameKey ⟨(gt l (i:Int)).area,(gt l (i:Int)).kind,(gt l (i:Int)).owner,(gt l (i:Int)).key,0,[],0,false⟩ ⟨a,k,o,y,0,[],0,false⟩=sameKey (gt l (i:Int)) ⟨a,k,o,y,0,[],0,false⟩ from rfl] at e
  cases hk:sameKey (gt l (i:Int)) ⟨a,k,o,y,0,[],0,false⟩ with
  | true =>
   rw [hk] at e
   by_cases hc:(gt l (i:Int)).seq > c
   ·simp (disch:=omega) only [↓pq,↓pj,ps,pz,↓reduceIte,reduceLE,reduceLT,reduceEq,reduceGT,reduceGE,reduceAdd,reduceSub,reduceMul,reduceNeg,G_newest_l0,hi,e,hc]
   ·simp (disch:=omega) only [↓pq,↓pj,ps,pz,↓reduceIte,reduceLE,reduceLT,reduceEq,reduceGT,reduceGE,reduceAdd,reduceSub,reduceMul,reduceNeg,G_newest_l0,hi,e,hc]
  | false =>
   rw [hk] at e
   simp (disch:=omega) only [↓pq,↓pj,ps,pz,↓reduceIte,reduceLE,reduceLT,reduceEq,reduceGT,reduceGE,reduceAdd,reduceSub,reduceMul,reduceNeg,G_newest_l0,hi,e,Bool.false_eq_true]
 ·intro c q _
  simp (disch:=omega) only [↓pq,↓pj,ps,pz,↓reduceIte,reduceLE,reduceLT,reduceEq,reduceGT,reduceGE,reduceAdd,reduceSub,reduceMul,reduceNeg,G_newest_l0]
theorem newest_le {l:List Rcd} {r:Rcd} {n:Int} (hn:0≤n) (h:∀ x∈l,sameKey x r=true→x.seq≤n):newestR l r≤n:=by
 unfold newestR
 refine foldl_all (P:=fun c:Int=>c≤n) (fun x hx c hc=>?_) hn
 by_cases hk:sameKey x r=true
 ·rw [if_pos hk]
  have:=h x hx hk
  split <;> omega
 ·rw [if_neg hk];exact hc
theorem mem_putR' {s:List Rcd} {r x:Rcd}:x∈putR s r↔x=r∨(x∈s∧sameKey x r=false):=by
 unfold putR
 simp only [List.mem_append,List.mem_filter,List.mem_singleton]
 have key:sameKey x r=false↔(recLt x r=true∨recLt r x=true):=by
  rw [← Bool.not_eq_true,sameKey_iff,recLt_iff,recLt_iff]
  omega
 rw [key]
 constructor
 ·rintro (⟨h,q⟩ | h | ⟨h,q⟩)
  ·exact .inr ⟨h,.inl q⟩
  ·exact .inl h
  ·exact .inr ⟨h,.inr q⟩
 ·rintro (h | ⟨h,q | q⟩)
  ·exact .inr (.inl h)
  ·exact .inl ⟨h,q⟩
  ·exact .inr (.inr ⟨h,q⟩)
def Has (s:List Rcd) (r:Rcd) (n:Int):Prop:=∃ x∈s,sameKey x r=true∧n≤x.seq
theorem insB_new {s:List Rcd} (hs:Sorted s) {r:Rcd} (h:insB s r=true):∀ x∈s,sameKey x r=true→x.seq < r.seq:=by
 intro x hx hk
 unfold insB at h
 rw [if_pos (key_some hx hk),key_is hs hx hk] at h
 simp only [Bool.and_eq_true,decide_eq_true_eq] at h
 exact h.2
theorem Has.ins {s:List Rcd} (hs:Sorted s) {r:Rcd} {n:Int} (h:Has s r n) (y:Rcd):Has (insR s y) r n:=by
 obtain ⟨x,hx,hk,hn⟩:=h
 unfold insR
 split
 ·rename_i hi
  cases hc:sameKey x y with
  | true =>
   have:=insB_new hs hi x hx hc
   refine ⟨y,mem_putR'.2 (.inl rfl),?_,by omega⟩
   rw [sameKey_iff] at *
   omega
  | false=>exact ⟨x,mem_putR'.2 (.inr ⟨hx,hc⟩),hk,hn⟩
 ·exact ⟨x,hx,hk,hn⟩
theorem insB_old {s:List Rcd} {r:Rcd} (hr:recOk r=true) (hl:s.length < 150) (h:insB s r=false):Has s r r.seq:=by
 unfold insB at h
 rw [hr,Bool.true_and] at h
 split at h
 ·rename_i h0
  obtain ⟨h1,h2⟩:=key_found h0
  exact ⟨_,h1,h2,by simp only [decide_eq_false_iff_not] at h;omega⟩
 ·simp only [decide_eq_false_iff_not] at h;omega
theorem insB_has {s:List Rcd} (hs:Sorted s) {r:Rcd} (h:Has s r r.seq):insB s r=false:=by
 rw [← Bool.not_eq_true]
 intro hi
 obtain ⟨x,hx,hk,hn⟩:=h
 have:=insB_new hs hi x hx hk
 omega
theorem learn_spec (s0:List Rcd):∀ (l:List Rcd) (p:List Rcd × List Rcd),storeOk p.1=true→p.1.length+l.length < 150→(∀ r∈l,recOk r=true)→(∀ x∈s0,Has p.1 x x.seq)→(∀ r∈p.2,recOk r=true∧∀ x∈s0,sameKey x r=true→x.seq < r.seq) →
  (∀ r n,Has p.1 r n→Has (l.foldl learn1 p).1 r n)∧(∀ r∈l,Has (l.foldl learn1 p).1 r r.seq)∧(∀ r∈(l.foldl learn1 p).2,recOk r=true∧∀ x∈s0,sameKey x r=true→x.seq < r.seq)∧(l.foldl learn1 p).2.length≤p.2.length+l.length
 | [],p,_,_,_,_,h=>⟨fun r n h=>h,by simp,h,by simp⟩
 | y :: l,p,hs,hl,hr,h0,hp=>by
  rw [List.foldl_cons]
  have hso:=storeOk_sorted hs
  simp only [List.length_cons] at hl
  have hs':storeOk (learn1 p y).1=true:=by rw [learn1_fst];exact insR_ok hs y
  have hl':(learn1 p y).1.length+l.length < 150:=by
   rw [learn1_fst]
   unfold insR
   split
   ·have:=putR_len p.1 y;omega
   ·omega
  have hup:∀ r n,Has p.1 r n→Has (learn1 p y).1 r n:=fun r n h=>by rw [learn1_fst];exact h.ins hso y
  have hy:Has (learn1 p y).1 y y.seq:=by
   rw [learn1_fst]
   cases hi:insB p.1 y with
   | true =>
    unfold insR
    rw [if_pos hi]
    exact ⟨y,mem_putR'.2 (.inl rfl),sameKey_iff.2 ⟨rfl,rfl,rfl,rfl⟩,by omega⟩
   | false=>exact (insB_old (hr y (.head _)) (by omega) hi).ins hso y
  obtain ⟨k1,k2,k3,k4⟩:=learn_spec s0 l (learn1 p y) hs' hl' (fun r h=>hr r (.tail _ h)) (fun x hx=>hup _ _ (h0 x hx)) (fun r hr'=>by
   unfold learn1 at hr'
   split at hr'
   ·rename_i hi
    rcases List.mem_append.1 hr' with hr' | hr'
    ·exact hp r hr'
    ·rw [List.mem_singleton] at hr'
     rw [hr']
     refine ⟨hr y (.head _),fun x hx hk=>?_⟩
     obtain ⟨z,hz,hkz,hn⟩:=h0 x hx
     have:=insB_new hso hi z hz (by rw [sameKey_iff] at *;omega)
     omega
   ·exact hp r hr')
  refine ⟨fun r n h=>k1 r n (hup r n h),fun r hr'=>?_,k3,?_⟩
  ·rcases List.mem_cons.1 hr' with rfl | hr'
   ·exact k1 _ _ hy
   ·exact k2 r hr'
  ·have:(learn1 p y).2.length≤p.2.length+1:=by unfold learn1;split <;> simp
   simp only [List.length_cons];omega
theorem learn_none:∀ (l:List Rcd) (s:List Rcd),Sorted s→(∀ r∈l,Has s r r.seq)→learnR s l=(s,[])
 | [],s,_,_=>rfl
 | y :: l,s,hs,h=>by
  have h1:insB s y=false:=insB_has hs (h y (.head _))
  have:learnR s (y :: l)=learnR s l:=by
   unfold learnR
   rw [List.foldl_cons]
   congr 1
   unfold learn1
   rw [if_neg (by rw [h1];simp)]
  rw [this]
  exact learn_none l s hs fun r hr=>h r (.tail _ hr)
theorem true_FnLearns (ts:List T) (h:WTs ys_FnLearns ts):F_FnLearns ts=some [.c (.bool true)]:=by
 obtain ⟨B,rfl,hB⟩:=dec_code ts h
 rw [g_FnLearns]
 by_cases hb:(B.length:Int) > 1048576
 ·simp (disch:=omega) only [↓pq,↓pj,ps,pz,↓reduceIte,reduceLE,reduceLT,reduceEq,reduceGT,reduceGE,reduceAdd,reduceSub,reduceMul,reduceNeg,G_FnLearns_l0,G_FnLearns,e_big,hb,decide_true]
 obtain ⟨x,e,hx,hbt,⟨hs,hsl,_⟩,ht,hn2⟩:=e_s_DrawRightSelf hB (by omega)
 obtain ⟨l,el,hll,hlr⟩:=e_s_DrawRecords hB (by omega)
 have hxa:netOk x.net=true∧x.heard.length≤60:=by
  unfold selfOk at hx
  simp only [Bool.and_eq_true] at hx
  have hp:=pairs_few (netOk_links hx.1).1 hx.2.2.2.1.2
  have he:x.heard.length % 2=0:=by simpa using hx.2.2.2.1.1
  exact ⟨hx.1,by omega⟩
 have hlk:=(netOk_links hxa.1).2
 have hsn:=storeOk_near hs
 have hln:NearL l:=fun r hr=>by have:=rec_near (hlr r hr).1;omega
 have a1:=e_i_Learn x l (by omega) (by omega) (by omega) (by omega) hsn (by omega) hln
 have a2:=e_s_Learn x l (by omega) (by omega) (by omega) (by omega) hsn (by omega) hln
 have a3:=e_s_Merge x.store l hs (by omega) hln
 have e1:learnS x l=learnR x.store l:=by unfold learnS;rw [if_pos hx]
 rw [e1] at a1 a2
 obtain ⟨k1,k2,k3,k4⟩:=learn_spec x.store l (x.store,[]) hs (by show x.store.length+l.length < 150;omega) (fun r hr=>(hlr r hr).1) (fun y hy=>⟨y,hy,sameKey_iff.2 ⟨rfl,rfl,rfl,rfl⟩,by omega⟩) (by simp)
 have hok:=learn_ok (l:=l) hs
 have hyx:=selfOk_with hx hok
 have a4:=e_i_Learn { x with store:=(learnR x.store l).1 } l (by show x.net.links.length≤_;omega) (by show x.net.things.length≤_;omega) (by show x.heard.length≤_;omega) (by have:=storeOk_len hok;show (learnR x.store l).1.length≤_;omega) (storeOk_near hok) (by omega) hln
 have e2:learnS { x with store:=(learnR x.store l).1 } l=((learnR x.store l).1,[]):=by
  unfold learnS
  rw [if_pos hyx]
  exact learn_none l _ (storeOk_sorted hok) k2
 rw [e2] at a4
 have a5:=e_i_SelfOk x.id x.boot x.net.n x.net.links x.net.things x.heard (learnR x.store l).1 (by omega) (by omega) (by omega) (by have:=storeOk_len hok;omega) (storeOk_near hok)
 rw [show (⟨x.id,x.boot,⟨x.net.n,x.net.links,x.net.things⟩,x.heard,(learnR x.store l).1⟩:Self)={ x with store:=(learnR x.store l).1 } from rfl,hyx] at a5
 have k4:(learnR x.store l).2.length≤0+l.length:=k4
 have k3:∀ r∈(learnR x.store l).2,recOk r=true∧∀ y∈x.store,sameKey y r=true→y.seq < r.seq:=k3
 have hol:=storeOk_len hok
 have hon:=storeOk_near hok
 generalize learnR x.store l=p at *
 obtain ⟨S,K⟩:=p
 simp only at *
 have hKn:NearL K:=fun r hr=>by have:=rec_near (k3 r hr).1;omega
 have s1:=refl_sameStore K (by omega) hKn
 have s2:=refl_sameStore S (by omega) hon
 simp (disch:=omega) only [↓pq,↓pj,ps,pz,↓reduceIte,reduceLE,reduceLT,reduceEq,reduceGT,reduceGE,reduceAdd,reduceSub,reduceMul,reduceNeg,G_FnLearns_l0,G_FnLearns,e_big,hb,decide_false,Bool.false_eq_true,e,el,a1,a2,a4,a5,s1]
 refine iter_while (fun i=>[bb false,ii (i:Int)]) K.length rfl (rounds_lt (by omega)) ?_ ?_
 ·intro i hi q
  have hm:=k3 _ (gt_mem (l:=K) (n:=(i:Int)) (by omega) hi)
  have hsq:1≤(gt K (i:Int)).seq:=by
   have:=hm.1
   unfold recOk at this
   simp only [Bool.and_eq_true,inB_iff] at this
   omega
  have hnew:newestR x.store ⟨(gt K (i:Int)).area,(gt K (i:Int)).kind,(gt K (i:Int)).owner,(gt K (i:Int)).key,0,[],0,false⟩≤(gt K (i:Int)).seq - 1:=newest_le (by omega) fun y hy hk=>by
   have:=hm.2 y hy (by rw [sameKey_iff] at *;exact hk)
   omega
  have c1:¬ (gt K (i:Int)).seq≤newestR x.store ⟨(gt K (i:Int)).area,(gt K (i:Int)).kind,(gt K (i:Int)).owner,(gt K (i:Int)).key,0,[],0,false⟩:=by omega
  simp (disch:=omega) only [↓pq,↓pj,ps,pz,↓reduceIte,reduceLE,reduceLT,reduceEq,reduceGT,reduceGE,reduceAdd,reduceSub,reduceMul,reduceNeg,G_FnLearns_l0,G_FnLearns_l0,hi,e_newest _ _ _ _ _ _ _ _ _ (show x.store.length≤1048576 by omega),c1]
 ·intro q
  have hz:¬ ((K.length:Int) < K.length):=by omega
  simp (disch:=omega) only [↓pq,↓pj,ps,pz,↓reduceIte,reduceLE,reduceLT,reduceEq,reduceGT,reduceGE,reduceAdd,reduceSub,reduceMul,reduceNeg,G_FnLearns_l0,G_FnLearns_l0,hz,a3,s2]
end Go.Proofs.YtlofiplkmgmnfaaC
