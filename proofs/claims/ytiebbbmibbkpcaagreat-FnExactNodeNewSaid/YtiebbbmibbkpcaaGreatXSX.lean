/- What a node has to tell, by both programs. Conditions: none. -/
import Derived.Test.YtiebbbmibbkpcaaGreatXSW
namespace Go.Proofs.YtiebbbmibbkpcaaGreatC
open Int (reduceLE reduceLT reduceEq reduceGT reduceGE reduceAdd reduceSub reduceMul reduceNeg)
set_option linter.unusedVariables false
set_option linter.unusedSimpArgs false
theorem xf_ {x:Self} (h:xd_ x=true):vV_ x.net=true∧(1≤x.id∧x.id≤x.net.n)∧(0≤x.boot∧x.boot≤90)∧x.heard.length % 2=0∧jf_ (fun v a=>decide (0≤zu_ (yk_ x.id v a) x.net.links)) x.heard=true∧zk_ x.store=true:=by
 unfold xd_ at h
 simp only [Bool.and_eq_true,inB_iff,decide_eq_true_eq] at h
 exact ⟨h.1,h.2.1,h.2.2.1,h.2.2.2.1.1,h.2.2.2.1.2,h.2.2.2.2⟩
def abv_ (ls:List Link) (id:Int) (hd:List Int) (a:Int):List Near :=
 ((List.range (hd.length / 2)).filter fun k:Nat=>decide (gt hd (2 * (k:Int)+1)=a)).map fun k:Nat=>⟨gt hd (2 * (k:Int)),yY_ ls id (gt hd (2 * (k:Int))) a⟩
def w4_ (ls:List Link) (id:Int) (hd:List Int) (a:Int):Rcd:=⟨a,1,id,0,0,abv_ ls id hd a,0,false⟩
def ownL (x:Self):List Rcd:=(z1_ x.net.links x.id).map (w4_ x.net.links x.id x.heard)
def kG_ (id:Int) (r:Rcd):Bool:=!(r.kind == 1 && r.owner == id)
def byR (s:List Rcd) (id:Int) (l:List Rcd):List Rcd:=zv_ seq1 (s.filter (kG_ id)) l
def xs_ (id:Int) (t:Thing):Rcd:=⟨9,3,id,t.key,0,[],t.cost,t.far⟩
def thL (x:Self):List Rcd:=(x.net.things.filter fun t=>t.owner == x.id).map (xs_ x.id)
def beyL (x:Self) (S:List Rcd):List Rcd:=if vO_ x.net.links x.id=true then (z1_ x.net.links x.id).flatMap fun a=>beyondR S (z1_ x.net.links x.id) x.id a else []
def same (r:Rcd):Rcd:=r
def xC_ (x:Self) (S:List Rcd):List Rcd:=zv_ same [] (ownL x++beyL x S++thL x)
theorem ap6_ (f:Rcd→Rcd) (s a b:List Rcd):zv_ f s (a++b)=zv_ f (zv_ f s a) b:=by
 unfold zv_;rw [List.foldl_append]
theorem ahl_ (x:Self):(ownL x).length≤3:=by unfold ownL;rw [List.length_map];exact wN_ _ _
theorem aL4_ (x:Self) (S:List Rcd):(beyL x S).length≤18:=by
 unfold beyL
 split
 ·have:=anl_ (z1_ x.net.links x.id) (fun a=>beyondR S (z1_ x.net.links x.id) x.id a) fun a=>jd_ _ _ _ _
  have:=wN_ x.net.links x.id
  omega
 ·simp
theorem aPg_ (x:Self):(thL x).length≤x.net.things.length:=by unfold thL;rw [List.length_map];exact List.length_filter_le _ _
theorem aB6_ (ls:List Link) (id:Int) (hd:List Int) (a:Int):(abv_ ls id hd a).length≤hd.length:=by
 unfold abv_
 rw [List.length_map]
 refine Nat.le_trans (List.length_filter_le _ _) ?_
 rw [List.length_range];omega
structure Fit (k:Nat) (s:List Rcd):Prop where
 so:yR_ s
 near:NearL s
 len:s.length≤k
theorem Fit.nil:Fit 0 []:=⟨.nil,fun r hr=>(by cases hr),Nat.le_refl _⟩
theorem Fit.mono {k k':Nat} {s:List Rcd} (h:Fit k s) (hk:k≤k'):Fit k' s:=⟨h.so,h.near,Nat.le_trans h.len hk⟩
theorem Fit.put {k:Nat} {s:List Rcd} (h:Fit k s) {r:Rcd} (hr:r.near.length≤1048576):Fit (k+1) (putR s r):=⟨uY_ h.so r,arz_ h.near hr,aKn_ (by have:=h.len;omega)⟩
theorem Fit.puts {f:Rcd→Rcd} {l:List Rcd} (hl:∀ r∈l,(f r).near.length≤1048576):∀ {k:Nat} {s:List Rcd},Fit k s→Fit (k+l.length) (zv_ f s l):=by
 unfold zv_
 induction l with
 | nil=>intro k s h;exact h
 | cons x l ih =>
  intro k s h
  rw [List.foldl_cons,List.length_cons]
  exact (ih (fun r hr=>hl r (.tail _ hr)) (h.put (hl x (.head _)))).mono (by omega)
theorem Fit.filter {k:Nat} {s:List Rcd} (h:Fit k s) (p:Rcd→Bool):Fit k (s.filter p):=⟨h.so.filter _,fun r hr=>h.near r (List.mem_filter.1 hr).1,Nat.le_trans (List.length_filter_le _ _) h.len⟩
theorem aks_ (ls:List Link) (id:Int) (hd:List Int) (a:Int) :
  (List.range (hd.length / 2)).foldl (fun (d:List Near) (k:Nat)=>if decide (gt hd (2 * (k:Int)+1)=a)=true then d++[(⟨gt hd (2 * (k:Int)),yY_ ls id (gt hd (2 * (k:Int))) a⟩:Near)] else d) []=abv_ ls id hd a:=by
 rw [w7_ (fun k:Nat=>decide (gt hd (2 * (k:Int)+1)=a)) (fun k:Nat=>(⟨gt hd (2 * (k:Int)),yY_ ls id (gt hd (2 * (k:Int))) a⟩:Near)),List.nil_append]
 rfl
theorem aQ3_ (id boot n:Int) (ls:List Link) (ts t6:T) (hd:List Int) (hA:ascB (xq_ n) xH_ ls=true) (hl:ls.length≤12) (h1:hd.length % 2=0) (h2:hd.length≤1048576) :
  abt_ [ii id,ii boot,ii n,.l (ls.map zn_),ts,.l (hd.map eInt),t6]=some [.l (((z1_ ls id).map (w4_ ls id hd)).map eRcd)]:=by
 have hal:=wN_ ls id
 rw [aQn_];simp (disch:=omega) only [↓pq,ps,pz,↓reduceIte,reduceLE,reduceLT,reduceEq,reduceGT,reduceGE,reduceAdd,reduceSub,reduceMul,reduceNeg,uE_,uC_,aro_,jo_ _ _ _ _ _ hA hl]
 generalize z1_ ls id=A at hal
 refine (zg_ A (fun j c=>[.l (c.map eRcd),ii j]) (fun c a=>c++[w4_ ls id hd a]) (fun c=>some [T.l (c.map eRcd)]) [] (fun j c=>c.length≤j) rfl (zb_ (by omega)) (by simp) ?_ ?_).trans (by rw [foldl_map,List.nil_append])
 ·intro j c hj hc
  refine ⟨by simp;omega,fun q=>?_⟩
  simp (disch:=omega) only [↓pq,ps,pz,↓reduceIte,reduceLE,reduceLT,reduceEq,reduceGT,reduceGE,reduceAdd,reduceSub,reduceMul,reduceNeg,uE_,uC_,hj]
  unfold w4_
  rw [← aks_]
  refine yy_ (hd.length / 2) (fun k d=>[ii (2 * k),.l (d.map zF_)]) (fun (d:List Near) (k:Nat)=>if decide (gt hd (2 * (k:Int)+1)=gt A (j:Int))=true then d++[(⟨gt hd (2 * (k:Int)),yY_ ls id (gt hd (2 * (k:Int))) (gt A (j:Int))⟩:Near)] else d) (fun d=>q [.l ((c++[(⟨gt A (j:Int),1,id,0,0,d,0,false⟩:Rcd)]).map eRcd),ii ((j:Int)+1)]) [] (fun k d=>d.length≤k) rfl (zb_ (by omega)) (by simp) ?_ ?_
  ·intro k d hk hd'
   refine ⟨by split;(· simp;omega);(· omega),fun s=>?_⟩
   have hlt:2 * (k:Int) < hd.length:=by omega
   have hlt2:2 * (k:Int)+1 < hd.length:=by omega
   by_cases e:gt hd (2 * (k:Int)+1)=gt A (j:Int)
   ·simp (disch:=omega) only [↓pq,ps,pz,↓reduceIte,reduceLE,reduceLT,reduceEq,reduceGT,reduceGE,reduceAdd,reduceSub,reduceMul,reduceNeg,uE_,uC_,hlt,hlt2,e,aHp_ _ _ _ _ _ _ (show ls.length≤1048576 by omega),decide_true,Int.mul_add]
   ·simp (disch:=omega) only [↓pq,ps,pz,↓reduceIte,reduceLE,reduceLT,reduceEq,reduceGT,reduceGE,reduceAdd,reduceSub,reduceMul,reduceNeg,uE_,uC_,hlt,hlt2,e,decide_false,Bool.false_eq_true,Int.mul_add]
  ·intro d s hd'
   have hlt:¬ (2 * ((hd.length / 2:Nat):Int) < hd.length):=by omega
   simp (disch:=omega) only [↓pq,ps,pz,↓reduceIte,reduceLE,reduceLT,reduceEq,reduceGT,reduceGE,reduceAdd,reduceSub,reduceMul,reduceNeg,uE_,uC_,hlt]
 ·intro c q hc
  simp (disch:=omega) only [↓pq,ps,pz,↓reduceIte,reduceLE,reduceLT,reduceEq,reduceGT,reduceGE,reduceAdd,reduceSub,reduceMul,reduceNeg,uE_,uC_,]
theorem aB3_ (id boot n:Int) (ls:List Link) (ts t6:T) (hd:List Int) (a:Int) (hl:ls.length≤12) (h1:hd.length % 2=0) (h2:hd.length≤1048576) :
  u3_ [ii id,ii boot,ii n,.l (ls.map zn_),ts,.l (hd.map eInt),t6,ii a]=some (eRcd (w4_ ls id hd a)):=by
 rw [azq_];simp (disch:=omega) only [↓pq,ps,pz,↓reduceIte,reduceLE,reduceLT,reduceEq,reduceGT,reduceGE,reduceAdd,reduceSub,reduceMul,reduceNeg,uu_,ae6_]
 unfold w4_
 rw [← aks_]
 refine yy_ (hd.length / 2) (fun k d=>[ii (2 * k),.l (d.map zF_)]) (fun (d:List Near) (k:Nat)=>if decide (gt hd (2 * (k:Int)+1)=a)=true then d++[(⟨gt hd (2 * (k:Int)),yY_ ls id (gt hd (2 * (k:Int))) a⟩:Near)] else d) (fun d=>some (eRcd (⟨a,1,id,0,0,d,0,false⟩:Rcd))) [] (fun k d=>d.length≤k) rfl (zb_ (by omega)) (by simp) ?_ ?_
 ·intro k d hk hd'
  refine ⟨by split;(· simp;omega);(· omega),fun s=>?_⟩
  have hlt:2 * (k:Int) < hd.length:=by omega
  have hlt2:2 * (k:Int)+1 < hd.length:=by omega
  by_cases e:gt hd (2 * (k:Int)+1)=a
  ·simp (disch:=omega) only [↓pq,ps,pz,↓reduceIte,reduceLE,reduceLT,reduceEq,reduceGT,reduceGE,reduceAdd,reduceSub,reduceMul,reduceNeg,uu_,hlt,hlt2,e,uy_ _ _ _ _ _ _ (show ls.length≤1048576 by omega),decide_true,Int.mul_add]
  ·simp (disch:=omega) only [↓pq,ps,pz,↓reduceIte,reduceLE,reduceLT,reduceEq,reduceGT,reduceGE,reduceAdd,reduceSub,reduceMul,reduceNeg,uu_,hlt,hlt2,e,decide_false,Bool.false_eq_true,Int.mul_add]
 ·intro d s hd'
  have hlt:¬ (2 * ((hd.length / 2:Nat):Int) < hd.length):=by omega
  simp (disch:=omega) only [↓pq,ps,pz,↓reduceIte,reduceLE,reduceLT,reduceEq,reduceGT,reduceGE,reduceAdd,reduceSub,reduceMul,reduceNeg,uu_,hlt]
  rfl
theorem aRp_ (s:List Rcd) (id:Int) (l:List Rcd) {k:Nat} (hs:Fit k s) (hk:k+l.length≤1048570) (hn:NearL l) :
  afc_ [.l (s.map eRcd),ii id,.l (l.map eRcd)]=some [.l ((byR s id l).map eRcd)]:=by
 have hsl:=hs.len
 rw [aRx_];simp (disch:=omega) only [↓pq,ps,pz,↓reduceIte,reduceLE,reduceLT,reduceEq,reduceGT,reduceGE,reduceAdd,reduceSub,reduceMul,reduceNeg,jS_,jN_,ayf_]
 refine avr_ s (fun i c=>[.l (c.map eRcd),ii i]) (kG_ id) rfl (zb_ (by omega)) ?_ ?_
 ·intro i c hi hc q
  have:=hs.near.gt (n:=i) (by omega) hi
  unfold kG_
  simp (disch:=omega) only [↓pq,ps,pz,↓reduceIte,reduceLE,reduceLT,reduceEq,reduceGT,reduceGE,reduceAdd,reduceSub,reduceMul,reduceNeg,jS_,jN_,hi]
  by_cases k1:(gt s (i:Int)).kind=1
  ·by_cases k2:(gt s (i:Int)).owner=id
   ·simp [k1,k2]
   ·simp [k1,k2]
  ·simp [k1]
 ·intro q
  simp (disch:=omega) only [↓pq,ps,pz,↓reduceIte,reduceLE,reduceLT,reduceEq,reduceGT,reduceGE,reduceAdd,reduceSub,reduceMul,reduceNeg,jS_,jN_,]
  refine zg_ l (fun i c=>[.l (c.map eRcd),ii i]) (fun c r=>putR c (seq1 r)) (fun c=>some [T.l (c.map eRcd)]) (s.filter (kG_ id)) (fun i c=>Fit (k+i) c) rfl (zb_ (by omega)) (hs.filter _) ?_ ?_
  ·intro i d hi hd
   have hnr:=hn.gt (n:=i) (by omega) hi
   refine ⟨hd.put hnr,fun q=>?_⟩
   have hdl:=hd.len
   have hp:=qJ_ d (gt l (i:Int)).area (gt l (i:Int)).kind (gt l (i:Int)).owner (gt l (i:Int)).key 1 (gt l (i:Int)).near (gt l (i:Int)).cost (gt l (i:Int)).far (by omega) hd.near hd.so hnr
   simp (disch:=omega) only [↓pq,ps,pz,↓reduceIte,reduceLE,reduceLT,reduceEq,reduceGT,reduceGE,reduceAdd,reduceSub,reduceMul,reduceNeg,jS_,jN_,hi,hp]
   rfl
  ·intro d q' hd
   simp (disch:=omega) only [↓pq,ps,pz,↓reduceIte,reduceLE,reduceLT,reduceEq,reduceGT,reduceGE,reduceAdd,reduceSub,reduceMul,reduceNeg,jS_,jN_,]
theorem aAd_ (id:Int) (ts:List Thing):∀ c:List Rcd,ts.foldl (fun c t=>if t.owner=id then putR c (xs_ id t) else c) c=zv_ same c ((ts.filter fun t=>t.owner == id).map (xs_ id)):=by
 induction ts with
 | nil=>intro c;rfl
 | cons t ts ih =>
  intro c
  rw [List.foldl_cons,ih]
  by_cases h:t.owner=id
  ·rw [if_pos h,List.filter_cons,if_pos (by simpa using h)]
   rfl
  ·rw [if_neg h,List.filter_cons,if_neg (by simpa using h)]
theorem am0_ (id:Int) (ts:List Thing) (h:ts.length≤4) (c:List Rcd) {k:Nat} (hc:Fit k c) (hk:k≤1000) :
  iter (y4_ x3_ (ii id) (.l (ts.map zl_)) (ii ts.length)) rounds [.l (c.map eRcd),ii 0]=some [.l ((zv_ same c ((ts.filter fun t=>t.owner == id).map (xs_ id))).map eRcd)]:=by
 rw [← aAd_]
 refine zg_ ts (fun i c=>[.l (c.map eRcd),ii i]) (fun c t=>if t.owner=id then putR c (xs_ id t) else c) (fun c=>some [T.l (c.map eRcd)]) c (fun i c=>Fit (k+i) c) rfl (zb_ (by omega)) hc ?_ ?_
 ·intro i d hi hd
  have hdl:=hd.len
  by_cases e:(gt ts (i:Int)).owner=id
  ·rw [if_pos e]
   refine ⟨hd.put (by simp [xs_]),fun q=>?_⟩
   have hp:=qJ_ d 9 3 id (gt ts (i:Int)).key 0 [] (gt ts (i:Int)).cost (gt ts (i:Int)).far (by omega) hd.near hd.so (by simp)
   rw [List.map_nil] at hp
   simp (disch:=omega) only [↓pq,ps,pz,↓reduceIte,reduceLE,reduceLT,reduceEq,reduceGT,reduceGE,reduceAdd,reduceSub,reduceMul,reduceNeg,xi_,xk_,y4_,xj_,hi,e,hp]
   rfl
  ·rw [if_neg e]
   refine ⟨hd.mono (by omega),fun q=>?_⟩
   simp (disch:=omega) only [↓pq,ps,pz,↓reduceIte,reduceLE,reduceLT,reduceEq,reduceGT,reduceGE,reduceAdd,reduceSub,reduceMul,reduceNeg,xi_,xk_,y4_,xj_,hi,e]
 ·intro d q hd
  simp (disch:=omega) only [↓pq,ps,pz,↓reduceIte,reduceLE,reduceLT,reduceEq,reduceGT,reduceGE,reduceAdd,reduceSub,reduceMul,reduceNeg,xi_,xk_,y4_,xj_,]
theorem ad0_ {x:Self} (h:x.heard.length≤1048576):NearL (ownL x):=fun r hr=>by
 obtain ⟨a,_,rfl⟩:=List.mem_map.1 hr
 exact Nat.le_trans (aB6_ _ _ _ _) h
theorem ac9_ (s:List Rcd) (A:List Int) (fr area:Int):NearL (beyondR s A fr area):=fun r hr=>by
 rw [(ame_ hr).2.2.2.2.1];simp
theorem aPx_ {s:List Rcd} {id:Int} {l:List Rcd} {k:Nat} (hs:Fit k s) (hn:NearL l):Fit (k+l.length) (byR s id l):=Fit.puts (f:=seq1) (fun r hr=>hn r hr) (hs.filter _)
theorem jp_ {s:List Rcd} (h:zk_ s=true) (hn:NearL s):Fit 150 s:=⟨jb_ h,hn,by unfold zk_ at h;simp only [Bool.and_eq_true,decide_eq_true_eq] at h;exact h.1⟩
theorem aEf_ (id boot n:Int) (ls:List Link) (ts:List Thing) (hd:List Int) (st:List Rcd) (h1:ls.length≤1048576) (h2:ts.length≤1048576) (h3:hd.length≤1048576) (h4:st.length≤1048576) (h5:NearL st) (hk:xd_ ⟨id,boot,⟨n,ls,ts⟩,hd,st⟩=true) :
  uz_ [ii id,ii boot,ii n,.l (ls.map zn_),.l (ts.map zl_),.l (hd.map eInt),.l (st.map eRcd)]=some [.l ((xC_ ⟨id,boot,⟨n,ls,ts⟩,hd,st⟩ (byR st id (ownL ⟨id,boot,⟨n,ls,ts⟩,hd,st⟩))).map eRcd)]:=by
 obtain ⟨hN,hid,hbt,hev,hpr,hst⟩:=xf_ hk
 obtain ⟨n1,hl,ht,hA,hT⟩:=wS_ hN
 simp only at hid hbt hev hpr hst n1 hl ht hA hT
 have hfs:=jp_ hst h5
 have hol:=ahl_ ⟨id,boot,⟨n,ls,ts⟩,hd,st⟩
 have hon:=ad0_ (x:=⟨id,boot,⟨n,ls,ts⟩,hd,st⟩) h3
 have hO:=aQ3_ id boot n ls (.l (ts.map zl_)) (.l (st.map eRcd)) hd hA hl hev h3
 rw [show (z1_ ls id).map (w4_ ls id hd)=ownL ⟨id,boot,⟨n,ls,ts⟩,hd,st⟩ from rfl] at hO
 unfold xC_ beyL thL
 simp only
 generalize ownL ⟨id,boot,⟨n,ls,ts⟩,hd,st⟩=O at hol hon hO
 have hB:=aRp_ st id O hfs (by omega) hon
 have hbf:=aPx_ (id:=id) hfs hon
 generalize byR st id O=S at hB hbf
 have hSl:=hbf.len
 rw [aFv_];simp (disch:=omega) only [↓pq,ps,pz,↓reduceIte,reduceLE,reduceLT,reduceEq,reduceGT,reduceGE,reduceAdd,reduceSub,reduceMul,reduceNeg,xi_,xk_,y4_,xj_,ag9_,abj_ _ _ _ _ _ _ _ h1 h2 h3 h4 h5,hk,hO]
 rw [ap6_,ap6_]
 refine zg_ O (fun i c=>[.l (c.map eRcd),ii i,.l (O.map eRcd)]) (fun c r=>putR c (same r)) (fun c=>some [T.l ((zv_ same (zv_ same c (if vO_ ls id=true then (z1_ ls id).flatMap fun a=>beyondR S (z1_ ls id) id a else [])) ((ts.filter fun t=>t.owner == id).map (xs_ id))).map eRcd)]) [] (fun i c=>Fit i c) rfl (zb_ (by omega)) Fit.nil ?_ ?_
 ·intro i d hi hd'
  have hnr:=hon.gt (n:=i) (by omega) hi
  refine ⟨hd'.put hnr,fun q=>?_⟩
  have hdl:=hd'.len
  have hp:=qJ_ d (gt O (i:Int)).area (gt O (i:Int)).kind (gt O (i:Int)).owner (gt O (i:Int)).key (gt O (i:Int)).seq (gt O (i:Int)).near (gt O (i:Int)).cost (gt O (i:Int)).far (by omega) hd'.near hd'.so hnr
  simp (disch:=omega) only [↓pq,ps,pz,↓reduceIte,reduceLE,reduceLT,reduceEq,reduceGT,reduceGE,reduceAdd,reduceSub,reduceMul,reduceNeg,xi_,xk_,y4_,xj_,hi,hp]
  rfl
 ·intro c q hc
  have hal:=wN_ ls id
  cases hb:vO_ ls id with
  | false =>
   simp (disch:=omega) only [↓pq,ps,pz,↓reduceIte,reduceLE,reduceLT,reduceEq,reduceGT,reduceGE,reduceAdd,reduceSub,reduceMul,reduceNeg,xi_,xk_,y4_,xj_,jo_ _ _ _ _ _ hA hl,aip_ _ _ _ _ _ hA hl,hb,Bool.false_eq_true]
   exact am0_ id ts ht c hc (by omega)
  | true =>
   simp only [if_true]
   simp (disch:=omega) only [↓pq,ps,pz,↓reduceIte,reduceLE,reduceLT,reduceEq,reduceGT,reduceGE,reduceAdd,reduceSub,reduceMul,reduceNeg,xi_,xk_,y4_,xj_,jo_ _ _ _ _ _ hA hl,aip_ _ _ _ _ _ hA hl,hb,hB]
   generalize z1_ ls id=A at hal
   rw [← aBv_]
   refine zg_ A (fun j c=>[.l (c.map eRcd),ii j]) (fun c a=>zv_ same c (beyondR S A id a)) (fun c=>some [T.l ((zv_ same c ((ts.filter fun t=>t.owner == id).map (xs_ id))).map eRcd)]) c (fun j c=>Fit (3+6 * j) c) rfl (zb_ (by omega)) (hc.mono (by omega)) ?_ ?_
   ·intro j c hj hc
    have hbl:=jd_ S A id (gt A (j:Int))
    have hbn:=ac9_ S A id (gt A (j:Int))
    refine ⟨(hc.puts (f:=same) fun r hr=>hbn r hr).mono (by omega),fun q=>?_⟩
    simp (disch:=omega) only [↓pq,ps,pz,↓reduceIte,reduceLE,reduceLT,reduceEq,reduceGT,reduceGE,reduceAdd,reduceSub,reduceMul,reduceNeg,xi_,xk_,y4_,xj_,hj,aEg_ S A id _ (show S.length≤1048576 by omega) hbf.near (show A.length≤1048576 by omega)]
    generalize beyondR S A id (gt A (j:Int))=B at hbl hbn
    refine zg_ B (fun i c=>[.l (c.map eRcd),ii i,.l (B.map eRcd)]) (fun c r=>putR c (same r)) (fun c=>q [.l (c.map eRcd),ii ((j:Int)+1)]) c (fun i c=>Fit (3+6 * j+i) c) rfl (zb_ (by omega)) hc ?_ ?_
    ·intro i d hi hd'
     have hnr:=hbn.gt (n:=i) (by omega) hi
     refine ⟨hd'.put hnr,fun q=>?_⟩
     have hdl:=hd'.len
     have hp:=qJ_ d (gt B (i:Int)).area (gt B (i:Int)).kind (gt B (i:Int)).owner (gt B (i:Int)).key (gt B (i:Int)).seq (gt B (i:Int)).near (gt B (i:Int)).cost (gt B (i:Int)).far (by omega) hd'.near hd'.so hnr
     simp (disch:=omega) only [↓pq,ps,pz,↓reduceIte,reduceLE,reduceLT,reduceEq,reduceGT,reduceGE,reduceAdd,reduceSub,reduceMul,reduceNeg,xi_,xk_,y4_,xj_,hi,hp]
     rfl
    ·intro d q' hd'
     simp (disch:=omega) only [↓pq,ps,pz,↓reduceIte,reduceLE,reduceLT,reduceEq,reduceGT,reduceGE,reduceAdd,reduceSub,reduceMul,reduceNeg,xi_,xk_,y4_,xj_,]
   ·intro c q hc
    simp (disch:=omega) only [↓pq,ps,pz,↓reduceIte,reduceLE,reduceLT,reduceEq,reduceGT,reduceGE,reduceAdd,reduceSub,reduceMul,reduceNeg,xi_,xk_,y4_,xj_,]
    exact am0_ id ts ht c hc (by omega)
end Go.Proofs.YtiebbbmibbkpcaaGreatC
