/- What is learnt: records that are newer are put into a store. Conditions: none. -/
import Derived.Test.YtlofiplkmgmnfaaXSDh
namespace Go.Proofs.YtlofiplkmgmnfaaC
open Int (reduceLE reduceLT reduceEq reduceGT reduceGE reduceAdd reduceSub reduceMul reduceNeg)
set_option linter.unusedVariables false
set_option linter.unusedSimpArgs false
theorem key_lt (s:List Rcd) (r:Rcd):keyP s r < s.length:=findP_lt _ _
theorem sorted_one {s:List Rcd} (h:Sorted s) {a b:Rcd} (ha:a∈s) (hb:b∈s) (hk:sameKey a b=true):a=b:=by
 obtain ⟨i,hi,e1⟩:=List.mem_iff_getElem.1 ha
 obtain ⟨j,hj,e2⟩:=List.mem_iff_getElem.1 hb
 have hp:=List.pairwise_iff_getElem.1 h
 rw [sameKey_iff] at hk
 rcases Nat.lt_trichotomy i j with hij | hij | hij
 ·have:=hp i j hi hj hij
  rw [e1,e2] at this
  rw [recLt_iff] at this
  omega
 ·subst hij;rw [← e1,← e2]
 ·have:=hp j i hj hi hij
  rw [e1,e2] at this
  rw [recLt_iff] at this
  omega
theorem key_found {s:List Rcd} {r:Rcd} (h:0≤keyP s r):gt s (keyP s r)∈s∧sameKey (gt s (keyP s r)) r=true :=
 ⟨gt_mem h (key_lt s r),findP_spec (fun x:Rcd=>sameKey x r) s h⟩
theorem key_some {s:List Rcd} {r x:Rcd} (hx:x∈s) (hk:sameKey x r=true):0≤keyP s r:=findP_has hx hk
theorem key_is {s:List Rcd} (hs:Sorted s) {r x:Rcd} (hx:x∈s) (hk:sameKey x r=true):gt s (keyP s r)=x:=by
 obtain ⟨h1,h2⟩:=key_found (key_some hx hk)
 refine sorted_one hs h1 hx ?_
 rw [sameKey_iff] at *
 omega
def insB (s:List Rcd) (r:Rcd):Bool:=recOk r && (if 0≤keyP s r then decide ((gt s (keyP s r)).seq < r.seq) else decide (s.length < 150))
def insR (s:List Rcd) (r:Rcd):List Rcd:=if insB s r=true then putR s r else s
theorem storeOk_len {s:List Rcd} (h:storeOk s=true):s.length≤150:=by
 unfold storeOk at h
 simp only [Bool.and_eq_true,decide_eq_true_eq] at h
 exact h.1
theorem storeOk_of {s:List Rcd} (h1:Sorted s) (h2:∀ r∈s,recOk r=true) (h3:s.length≤150):storeOk s=true:=by
 unfold storeOk
 simp only [Bool.and_eq_true,decide_eq_true_eq]
 exact ⟨h3,asc_of h2 h1⟩
theorem storeOk_near {s:List Rcd} (h:storeOk s=true):NearL s:=fun r hr=>by
 have:=rec_near (storeOk_all h hr)
 omega
theorem filter_less {α:Type} {p q:α→Bool} (hpq:∀ a,p a=true→q a=false):∀ {l:List α} {x:α},x∈l→p x=false→q x=false→(l.filter p).length+(l.filter q).length+1≤l.length
 | a :: l,x,hx,hp,hq=>by
  have gen:∀ l:List α,(l.filter p).length+(l.filter q).length≤l.length:=by
   intro l
   induction l with
   | nil=>simp
   | cons a l ih =>
    have:=hpq a
    cases h1:p a <;> cases h2:q a <;> simp_all <;> omega
  rcases List.mem_cons.1 hx with rfl | hx
  ·have:=gen l
   simp only [List.filter_cons,hp,hq,Bool.false_eq_true,if_false,List.length_cons]
   omega
  ·have ih:=filter_less hpq hx hp hq
   have:=hpq a
   cases h1:p a <;> cases h2:q a <;> simp_all <;> omega
theorem putR_same_len {s:List Rcd} {r:Rcd} (h:0≤keyP s r):(putR s r).length≤s.length:=by
 obtain ⟨h1,h2⟩:=key_found h
 rw [sameKey_iff] at h2
 have:=filter_less (p:=fun x=>recLt x r) (q:=fun x=>recLt r x) (fun a ha=>by
  rw [← Bool.not_eq_true]
  intro hb
  rw [recLt_iff] at ha hb
  omega) h1 (by rw [← Bool.not_eq_true,recLt_iff];omega) (by rw [← Bool.not_eq_true,recLt_iff];omega)
 unfold putR
 simp only [List.length_append,List.length_singleton]
 omega
theorem putR_ok {s:List Rcd} (h:storeOk s=true) {r:Rcd} (hr:recOk r=true) (hk:0≤keyP s r∨s.length < 150):storeOk (putR s r)=true:=by
 have hl:=storeOk_len h
 refine storeOk_of (putR_sorted (storeOk_sorted h) r) (fun x hx=>?_) ?_
 ·rcases mem_putR hx with rfl | hx
  ·exact hr
  ·exact storeOk_all h hx
 ·rcases hk with hk | hk
  ·have:=putR_same_len hk;omega
  ·have:=putR_len s r;omega
theorem insR_ok {s:List Rcd} (h:storeOk s=true) (r:Rcd):storeOk (insR s r)=true:=by
 unfold insR
 split
 ·rename_i hi
  unfold insB at hi
  simp only [Bool.and_eq_true] at hi
  refine putR_ok h hi.1 ?_
  split at hi
  ·rename_i h0;exact .inl h0
  ·exact .inr (by simpa using hi.2)
 ·exact h
theorem e_i_Install (s:List Rcd) (r:Rcd) (h:storeOk s=true) (hr:r.near.length≤1048576) :
  F_i_Install [.l (s.map eRcd),ii r.area,ii r.kind,ii r.owner,ii r.key,ii r.seq,.l (r.near.map eNear),ii r.cost,bb r.far]=some (if insB s r=true then [.l ((putR s r).map eRcd),bb true] else [.l [],bb false]):=by
 have hl:=storeOk_len h
 have hn:=storeOk_near h
 have e1:=e_i_StoreOk s (by omega) hn
 have e2:=e_i_RecordOk r.area r.kind r.owner r.key r.seq r.near r.cost r.far hr
 have e3:=e_i_keyAt s r.area r.kind r.owner r.key (ii r.seq) (.l (r.near.map eNear)) (ii r.cost) (bb r.far) (by omega)
 have e4:=e_i_put s r.area r.kind r.owner r.key r.seq r.near r.cost r.far (by omega) hn (storeOk_sorted h) hr
 rw [keyP_eta] at e3
 have hlt:=key_lt s r
 rw [g_i_Install]
 unfold insB
 cases hk:recOk r with
 | false =>
  rw [show recOk ⟨r.area,r.kind,r.owner,r.key,r.seq,r.near,r.cost,r.far⟩=recOk r from rfl,hk] at e2
  simp (disch:=omega) only [↓pq,↓pj,ps,pz,↓reduceIte,reduceLE,reduceLT,reduceEq,reduceGT,reduceGE,reduceAdd,reduceSub,reduceMul,reduceNeg,G_i_Install,e1,h,e2,Bool.false_eq_true]
  simp
 | true =>
  rw [show recOk ⟨r.area,r.kind,r.owner,r.key,r.seq,r.near,r.cost,r.far⟩=recOk r from rfl,hk] at e2
  by_cases h0:0≤keyP s r
  ·rw [if_pos h0]
   have h1:keyP s r ≥ 0:=h0
   have h2:¬ keyP s r < 0:=by omega
   by_cases hq:(gt s (keyP s r)).seq < r.seq
   ·have hq':¬ (gt s (keyP s r)).seq ≥ r.seq:=by omega
    simp (disch:=omega) only [↓pq,↓pj,ps,pz,↓reduceIte,reduceLE,reduceLT,reduceEq,reduceGT,reduceGE,reduceAdd,reduceSub,reduceMul,reduceNeg,G_i_Install,e1,h,e2,e3,h1,h2,hlt,hq',e4]
    simp [hq]
   ·have hq':(gt s (keyP s r)).seq ≥ r.seq:=by omega
    simp (disch:=omega) only [↓pq,↓pj,ps,pz,↓reduceIte,reduceLE,reduceLT,reduceEq,reduceGT,reduceGE,reduceAdd,reduceSub,reduceMul,reduceNeg,G_i_Install,e1,h,e2,e3,h1,h2,hlt,hq']
    simp [hq]
  ·rw [if_neg h0]
   have h1:¬ keyP s r ≥ 0:=h0
   have h2:keyP s r < 0:=by omega
   by_cases hq:s.length < 150
   ·have hq':¬ (s.length:Int) ≥ 150:=by omega
    simp (disch:=omega) only [↓pq,↓pj,ps,pz,↓reduceIte,reduceLE,reduceLT,reduceEq,reduceGT,reduceGE,reduceAdd,reduceSub,reduceMul,reduceNeg,G_i_Install,e1,h,e2,e3,h1,h2,hq',e4]
    simp [hq]
   ·have hq':(s.length:Int) ≥ 150:=by omega
    simp (disch:=omega) only [↓pq,↓pj,ps,pz,↓reduceIte,reduceLE,reduceLT,reduceEq,reduceGT,reduceGE,reduceAdd,reduceSub,reduceMul,reduceNeg,G_i_Install,e1,h,e2,e3,h1,h2,hq']
    simp [hq]
theorem install_F_s_l05Install (s:List Rcd) (r:Rcd) (hl:s.length≤1048570) (hn:NearL s) (hso:Sorted s) (hr:r.near.length≤1048576) :
  F_s_l05Install [.l (s.map eRcd),ii r.area,ii r.kind,ii r.owner,ii r.key,ii r.seq,.l (r.near.map eNear),ii r.cost,bb r.far]=some [.l ((insR s r).map eRcd),bb (insB s r)]:=by
 have e2:=e_s_RecordOk r.area r.kind r.owner r.key r.seq r.near r.cost r.far hr
 have e3:=e_s_l05At s r.area r.kind r.owner r.key (ii r.seq) (.l (r.near.map eNear)) (ii r.cost) (bb r.far) (by omega)
 have e4:=e_s_l05Put s r.area r.kind r.owner r.key r.seq r.near r.cost r.far (by omega) hn hr
 rw [keyP_eta] at e3
 have hlt:=key_lt s r
 rw [g_s_l05Install]
 unfold insR
 have hB:insB s r=(recOk r && (if 0≤keyP s r then decide ((gt s (keyP s r)).seq < r.seq) else decide (s.length < 150))):=rfl
 cases hk:recOk r with
 | false =>
  rw [show recOk ⟨r.area,r.kind,r.owner,r.key,r.seq,r.near,r.cost,r.far⟩=recOk r from rfl,hk] at e2
  rw [hB,hk]
  simp (disch:=omega) only [↓pq,↓pj,ps,pz,↓reduceIte,reduceLE,reduceLT,reduceEq,reduceGT,reduceGE,reduceAdd,reduceSub,reduceMul,reduceNeg,G_s_l05Install,e2,e3,Bool.false_eq_true]
  simp
 | true =>
  rw [show recOk ⟨r.area,r.kind,r.owner,r.key,r.seq,r.near,r.cost,r.far⟩=recOk r from rfl,hk] at e2
  by_cases h0:0≤keyP s r
  ·rw [hB,hk,if_pos h0]
   have h1:keyP s r ≥ 0:=h0
   have h2:¬ keyP s r < 0:=by omega
   by_cases hq:(gt s (keyP s r)).seq < r.seq
   ·have hq':¬ (gt s (keyP s r)).seq ≥ r.seq:=by omega
    simp (disch:=omega) only [↓pq,↓pj,ps,pz,↓reduceIte,reduceLE,reduceLT,reduceEq,reduceGT,reduceGE,reduceAdd,reduceSub,reduceMul,reduceNeg,G_s_l05Install,e2,e3,h1,h2,hlt,hq',e4]
    simp [hq]
   ·have hq':(gt s (keyP s r)).seq ≥ r.seq:=by omega
    simp (disch:=omega) only [↓pq,↓pj,ps,pz,↓reduceIte,reduceLE,reduceLT,reduceEq,reduceGT,reduceGE,reduceAdd,reduceSub,reduceMul,reduceNeg,G_s_l05Install,e2,e3,h1,h2,hlt,hq']
    simp [hq]
  ·rw [hB,hk,if_neg h0]
   have h1:¬ keyP s r ≥ 0:=h0
   have h2:keyP s r < 0:=by omega
   by_cases hq:s.length < 150
   ·have hq':¬ (s.length:Int) ≥ 150:=by omega
    simp (disch:=omega) only [↓pq,↓pj,ps,pz,↓reduceIte,reduceLE,reduceLT,reduceEq,reduceGT,reduceGE,reduceAdd,reduceSub,reduceMul,reduceNeg,G_s_l05Install,e2,e3,h1,h2,hq',e4]
    simp [hq]
   ·have hq':(s.length:Int) ≥ 150:=by omega
    simp (disch:=omega) only [↓pq,↓pj,ps,pz,↓reduceIte,reduceLE,reduceLT,reduceEq,reduceGT,reduceGE,reduceAdd,reduceSub,reduceMul,reduceNeg,G_s_l05Install,e2,e3,h1,h2,hq']
    simp [hq]
def learn1 (p:List Rcd × List Rcd) (r:Rcd):List Rcd × List Rcd:=if insB p.1 r=true then (putR p.1 r,p.2++[r]) else p
def learnR (s l:List Rcd):List Rcd × List Rcd:=l.foldl learn1 (s,[])
theorem learn1_fst (p:List Rcd × List Rcd) (r:Rcd):(learn1 p r).1=insR p.1 r:=by unfold learn1 insR;split <;> rfl
theorem learn_ok {s l:List Rcd} (h:storeOk s=true):storeOk (learnR s l).1=true:=by
 have:∀ (l:List Rcd) (p:List Rcd × List Rcd),storeOk p.1=true→storeOk (l.foldl learn1 p).1=true:=by
  intro l
  induction l with
  | nil=>exact fun p h=>h
  | cons r l ih=>intro p h;exact ih _ (by rw [learn1_fst];exact insR_ok h r)
 exact this l (s,[]) h
theorem e_i_learned (s l:List Rcd) (h:storeOk s=true) (hl:l.length≤1048576) (hn:NearL l):F_i_learned [.l (s.map eRcd),.l (l.map eRcd)]=some [.l ((learnR s l).1.map eRcd),.l ((learnR s l).2.map eRcd)]:=by
 have hsl:=storeOk_len h
 rw [g_i_learned];simp (disch:=omega) only [↓pq,↓pj,ps,pz,↓reduceIte,reduceLE,reduceLT,reduceEq,reduceGT,reduceGE,reduceAdd,reduceSub,reduceMul,reduceNeg,G_i_learned_l0,G_i_learned,e_i_copyRecords s (by omega) (storeOk_near h)]
 refine iter_foldlx l (fun i p=>[.l (p.1.map eRcd),.l (p.2.map eRcd),ii i]) learn1 (fun p=>some [T.l (p.1.map eRcd),T.l (p.2.map eRcd)]) (s,[]) (fun i p=>storeOk p.1=true∧p.2.length≤i) rfl (rounds_lt hl) ⟨h,by simp⟩ ?_ ?_
 ·rintro i ⟨S,K⟩ hi ⟨hS,hK⟩
  have hS:storeOk S=true:=hS
  have hK:K.length≤i:=hK
  have hnr:=hn.gt (n:=(i:Int)) (by omega) hi
  have e1:=e_i_Install S (gt l (i:Int)) hS hnr
  have e2:=e_i_copyRecord (gt l (i:Int)).area (gt l (i:Int)).kind (gt l (i:Int)).owner (gt l (i:Int)).key (gt l (i:Int)).seq (gt l (i:Int)).near (gt l (i:Int)).cost (gt l (i:Int)).far hnr
  refine ⟨⟨by rw [learn1_fst];exact insR_ok hS _,by unfold learn1;split;(· show (K++[_]).length≤_;simp;omega);(· show K.length≤_;omega)⟩,fun q=>?_⟩
  unfold learn1
  show _=_
  cases hb:insB S (gt l (i:Int)) with
  | true =>
   rw [if_pos hb] at e1
   simp (disch:=omega) only [↓pq,↓pj,ps,pz,↓reduceIte,reduceLE,reduceLT,reduceEq,reduceGT,reduceGE,reduceAdd,reduceSub,reduceMul,reduceNeg,G_i_learned_l0,hi,e1,e2]
  | false =>
   rw [if_neg (by rw [hb];simp)] at e1
   simp (disch:=omega) only [↓pq,↓pj,ps,pz,↓reduceIte,reduceLE,reduceLT,reduceEq,reduceGT,reduceGE,reduceAdd,reduceSub,reduceMul,reduceNeg,G_i_learned_l0,hi,e1,Bool.false_eq_true]
 ·rintro ⟨S,K⟩ q ⟨hS,hK⟩
  simp (disch:=omega) only [↓pq,↓pj,ps,pz,↓reduceIte,reduceLE,reduceLT,reduceEq,reduceGT,reduceGE,reduceAdd,reduceSub,reduceMul,reduceNeg,G_i_learned_l0,]
theorem copy_F_i_copySelf (x:Self) (h1:x.net.links.length≤1048576) (h2:x.net.things.length≤1048576) (h3:x.heard.length≤1048576) (h4:x.store.length≤1048576) (h5:NearL x.store) :
  F_i_copySelf [ii x.id,ii x.boot,ii x.net.n,.l (x.net.links.map eLink),.l (x.net.things.map eThing),.l (x.heard.map eInt),.l (x.store.map eRcd)]=some [ii x.id,ii x.boot,ii x.net.n,.l (x.net.links.map eLink),.l (x.net.things.map eThing),.l (x.heard.map eInt),.l (x.store.map eRcd)]:=by
 have hN:F_i_copyNet [ii x.net.n,.l (x.net.links.map eLink),.l (x.net.things.map eThing)]=some [ii x.net.n,.l (x.net.links.map eLink),.l (x.net.things.map eThing)]:=by
  rw [g_i_copyNet];simp (disch:=omega) only [↓pq,↓pj,ps,pz,↓reduceIte,reduceLE,reduceLT,reduceEq,reduceGT,reduceGE,reduceAdd,reduceSub,reduceMul,reduceNeg,G_i_copyNet]
 rw [g_i_copySelf];simp (disch:=omega) only [↓pq,↓pj,ps,pz,↓reduceIte,reduceLE,reduceLT,reduceEq,reduceGT,reduceGE,reduceAdd,reduceSub,reduceMul,reduceNeg,G_i_copySelf,hN,e_i_copyInts _ h3,e_i_copyRecords _ h4 h5]
theorem copy_F_s_l08Copy (x:Self) (h1:x.net.links.length≤1048576) (h2:x.net.things.length≤1048576) (h3:x.heard.length≤1048576) (h4:x.store.length≤1048576) (h5:NearL x.store) :
  F_s_l08Copy [ii x.id,ii x.boot,ii x.net.n,.l (x.net.links.map eLink),.l (x.net.things.map eThing),.l (x.heard.map eInt),.l (x.store.map eRcd)]=some [ii x.id,ii x.boot,ii x.net.n,.l (x.net.links.map eLink),.l (x.net.things.map eThing),.l (x.heard.map eInt),.l (x.store.map eRcd)]:=by
 rw [g_s_l08Copy];simp (disch:=omega) only [↓pq,↓pj,ps,pz,↓reduceIte,reduceLE,reduceLT,reduceEq,reduceGT,reduceGE,reduceAdd,reduceSub,reduceMul,reduceNeg,G_s_l08Copy,e_s_l04CopyList _ h4 h5]
theorem selfOk_store {x:Self} (h:selfOk x=true):storeOk x.store=true:=by
 unfold selfOk at h
 simp only [Bool.and_eq_true] at h
 exact h.2.2.2.2
theorem selfOk_with {x:Self} (h:selfOk x=true) {s:List Rcd} (hs:storeOk s=true):selfOk { x with store:=s }=true:=by
 unfold selfOk at *
 simp only [Bool.and_eq_true] at *
 exact ⟨h.1,h.2.1,h.2.2.1,h.2.2.2.1,hs⟩
def learnS (x:Self) (l:List Rcd):List Rcd × List Rcd:=if selfOk x=true then learnR x.store l else (x.store,[])
theorem e_i_Learn (x:Self) (l:List Rcd) (h1:x.net.links.length≤1048576) (h2:x.net.things.length≤1048576) (h3:x.heard.length≤1048576) (h4:x.store.length≤1048576) (h5:NearL x.store) (hl:l.length≤1048576) (hn:NearL l) :
  F_i_Learn [ii x.id,ii x.boot,ii x.net.n,.l (x.net.links.map eLink),.l (x.net.things.map eThing),.l (x.heard.map eInt),.l (x.store.map eRcd),.l (l.map eRcd)] =
   some [ii x.id,ii x.boot,ii x.net.n,.l (x.net.links.map eLink),.l (x.net.things.map eThing),.l (x.heard.map eInt),.l ((learnS x l).1.map eRcd),.l ((learnS x l).2.map eRcd)]:=by
 have e1:=copy_F_i_copySelf x h1 h2 h3 h4 h5
 have e2:=e_i_SelfOk x.id x.boot x.net.n x.net.links x.net.things x.heard x.store h1 h2 h3 h4 h5
 rw [show (⟨x.id,x.boot,⟨x.net.n,x.net.links,x.net.things⟩,x.heard,x.store⟩:Self)=x from rfl] at e2
 rw [g_i_Learn]
 unfold learnS
 cases hk:selfOk x with
 | false =>
  rw [hk] at e2
  simp (disch:=omega) only [↓pq,↓pj,ps,pz,↓reduceIte,reduceLE,reduceLT,reduceEq,reduceGT,reduceGE,reduceAdd,reduceSub,reduceMul,reduceNeg,G_i_Learn,e1,e2,Bool.false_eq_true]
  rfl
 | true =>
  rw [hk] at e2
  simp (disch:=omega) only [↓pq,↓pj,ps,pz,↓reduceIte,reduceLE,reduceLT,reduceEq,reduceGT,reduceGE,reduceAdd,reduceSub,reduceMul,reduceNeg,G_i_Learn,e1,e2,e_i_learned x.store l (selfOk_store hk) hl hn]
theorem e_s_Learn (x:Self) (l:List Rcd) (h1:x.net.links.length≤1048576) (h2:x.net.things.length≤1048576) (h3:x.heard.length≤1048576) (h4:x.store.length≤1048576) (h5:NearL x.store) (hl:l.length≤1048576) (hn:NearL l) :
  F_s_Learn [ii x.id,ii x.boot,ii x.net.n,.l (x.net.links.map eLink),.l (x.net.things.map eThing),.l (x.heard.map eInt),.l (x.store.map eRcd),.l (l.map eRcd)] =
   some [ii x.id,ii x.boot,ii x.net.n,.l (x.net.links.map eLink),.l (x.net.things.map eThing),.l (x.heard.map eInt),.l ((learnS x l).1.map eRcd),.l ((learnS x l).2.map eRcd)]:=by
 have e1:=copy_F_s_l08Copy x h1 h2 h3 h4 h5
 have e2:=e_s_SelfOk x.id x.boot x.net.n x.net.links x.net.things x.heard x.store h1 h2 h3 h4 h5
 rw [show (⟨x.id,x.boot,⟨x.net.n,x.net.links,x.net.things⟩,x.heard,x.store⟩:Self)=x from rfl] at e2
 rw [g_s_Learn]
 unfold learnS
 cases hk:selfOk x with
 | false =>
  rw [hk] at e2
  simp (disch:=omega) only [↓pq,↓pj,ps,pz,↓reduceIte,reduceLE,reduceLT,reduceEq,reduceGT,reduceGE,reduceAdd,reduceSub,reduceMul,reduceNeg,G_s_Learn_l0,G_s_Learn,e1,e2,Bool.false_eq_true]
  rfl
 | true =>
  rw [hk] at e2
  have hS:=selfOk_store hk
  have hsl:=storeOk_len hS
  simp (disch:=omega) only [↓pq,↓pj,ps,pz,↓reduceIte,reduceLE,reduceLT,reduceEq,reduceGT,reduceGE,reduceAdd,reduceSub,reduceMul,reduceNeg,G_s_Learn_l0,G_s_Learn,e1,e2]
  refine iter_foldlx l (fun i p=>[.l (p.2.map eRcd),ii i,.l (p.1.map eRcd),.l (x.store.map eRcd)]) learn1 (fun p=>some [ii x.id,ii x.boot,ii x.net.n,T.l (x.net.links.map eLink),T.l (x.net.things.map eThing),T.l (x.heard.map eInt),T.l (p.1.map eRcd),T.l (p.2.map eRcd)]) (x.store,[]) (fun i p=>storeOk p.1=true∧p.2.length≤i) rfl (rounds_lt hl) ⟨hS,by simp⟩ ?_ ?_
  ·rintro i ⟨S,K⟩ hi ⟨hS,hK⟩
   have hS:storeOk S=true:=hS
   have hK:K.length≤i:=hK
   have hSl:=storeOk_len hS
   have hnr:=hn.gt (n:=(i:Int)) (by omega) hi
   have e1:=install_F_s_l05Install S (gt l (i:Int)) (by omega) (storeOk_near hS) (storeOk_sorted hS) hnr
   have e2:=e_s_l04Copy (gt l (i:Int)).area (gt l (i:Int)).kind (gt l (i:Int)).owner (gt l (i:Int)).key (gt l (i:Int)).seq (gt l (i:Int)).near (gt l (i:Int)).cost (gt l (i:Int)).far hnr
   refine ⟨⟨by rw [learn1_fst];exact insR_ok hS _,by unfold learn1;split;(· show (K++[_]).length≤_;simp;omega);(· show K.length≤_;omega)⟩,fun q=>?_⟩
   unfold learn1
   unfold insR at e1
   cases hb:insB S (gt l (i:Int)) with
   | true =>
    rw [if_pos hb,hb] at e1
    simp (disch:=omega) only [↓pq,↓pj,ps,pz,↓reduceIte,reduceLE,reduceLT,reduceEq,reduceGT,reduceGE,reduceAdd,reduceSub,reduceMul,reduceNeg,G_s_Learn_l0,hi,e1,e2]
   | false =>
    rw [if_neg (by rw [hb];simp),hb] at e1
    simp (disch:=omega) only [↓pq,↓pj,ps,pz,↓reduceIte,reduceLE,reduceLT,reduceEq,reduceGT,reduceGE,reduceAdd,reduceSub,reduceMul,reduceNeg,G_s_Learn_l0,hi,e1,Bool.false_eq_true]
  ·rintro ⟨S,K⟩ q ⟨hS,hK⟩
   have hS:storeOk S=true:=hS
   have hSl:=storeOk_len hS
   simp (disch:=omega) only [↓pq,↓pj,ps,pz,↓reduceIte,reduceLE,reduceLT,reduceEq,reduceGT,reduceGE,reduceAdd,reduceSub,reduceMul,reduceNeg,G_s_Learn_l0,e_s_l04CopyList S (by omega) (storeOk_near hS)]
theorem learn_fst (l:List Rcd):∀ p:List Rcd × List Rcd,(l.foldl learn1 p).1=l.foldl insR p.1:=by
 induction l with
 | nil=>exact fun p=>rfl
 | cons r l ih=>intro p;rw [List.foldl_cons,List.foldl_cons,ih,learn1_fst]
theorem e_s_Merge (s l:List Rcd) (hs:storeOk s=true) (hl:l.length≤1048576) (hn:NearL l):F_s_Merge [.l (s.map eRcd),.l (l.map eRcd)]=some [.l ((learnR s l).1.map eRcd)]:=by
 have hsl:=storeOk_len hs
 have e0:=e_s_StoreOk s (by omega) (storeOk_near hs)
 rw [g_s_Merge];simp (disch:=omega) only [↓pq,↓pj,ps,pz,↓reduceIte,reduceLE,reduceLT,reduceEq,reduceGT,reduceGE,reduceAdd,reduceSub,reduceMul,reduceNeg,G_s_Merge_l0,G_s_Merge]
 refine (iter_foldlx l (fun i S=>[.l (S.map eRcd),ii i]) insR (fun S=>some [T.l (S.map eRcd)]) s (fun i S=>storeOk S=true) rfl (rounds_lt hl) hs ?_ ?_).trans (show some [T.l ((l.foldl insR s).map eRcd)]=some [T.l ((learnR s l).1.map eRcd)] by unfold learnR;rw [learn_fst])
 ·intro i S hi hS
  have hSl:=storeOk_len hS
  have hnr:=hn.gt (n:=(i:Int)) (by omega) hi
  have e1:=install_F_s_l05Install S (gt l (i:Int)) (by omega) (storeOk_near hS) (storeOk_sorted hS) hnr
  refine ⟨insR_ok hS _,fun q=>?_⟩
  unfold insR at *
  cases hb:insB S (gt l (i:Int)) with
  | true =>
   rw [if_pos hb,hb] at e1
   simp (disch:=omega) only [↓pq,↓pj,ps,pz,↓reduceIte,reduceLE,reduceLT,reduceEq,reduceGT,reduceGE,reduceAdd,reduceSub,reduceMul,reduceNeg,G_s_Merge_l0,hi,e0,hs,e1]
  | false =>
   rw [if_neg (by rw [hb];simp),hb] at e1
   simp (disch:=omega) only [↓pq,↓pj,ps,pz,↓reduceIte,reduceLE,reduceLT,reduceEq,reduceGT,reduceGE,reduceAdd,reduceSub,reduceMul,reduceNeg,G_s_Merge_l0,hi,e0,hs,e1,Bool.false_eq_true]
 ·intro S q hS
  have hSl:=storeOk_len hS
  simp (disch:=omega) only [↓pq,↓pj,ps,pz,↓reduceIte,reduceLE,reduceLT,reduceEq,reduceGT,reduceGE,reduceAdd,reduceSub,reduceMul,reduceNeg,G_s_Merge_l0,e_s_l04CopyList S (by omega) (storeOk_near hS)]
end Go.Proofs.YtlofiplkmgmnfaaC
