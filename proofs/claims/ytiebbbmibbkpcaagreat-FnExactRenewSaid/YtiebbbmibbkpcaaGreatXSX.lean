/- What a node has to tell, by both programs. Conditions: none. -/
import Derived.Test.YtiebbbmibbkpcaaGreatXSW
namespace Go.Proofs.YtiebbbmibbkpcaaGreatC
open Int (reduceLE reduceLT reduceEq reduceGT reduceGE reduceAdd reduceSub reduceMul reduceNeg)
set_option linter.unusedVariables false
set_option linter.unusedSimpArgs false
theorem wd_ {x:Self} (h:xv_ x=true):uF_ x.net=true∧(1≤x.id∧x.id≤x.net.n)∧(0≤x.boot∧x.boot≤90)∧x.heard.length % 2=0∧je_ (fun v a=>decide (0≤zv_ (ys_ x.id v a) x.net.links)) x.heard=true∧zk_ x.store=true:=by
 unfold xv_ at h
 simp only [Bool.and_eq_true,inB_iff,decide_eq_true_eq] at h
 exact ⟨h.1,h.2.1,h.2.2.1,h.2.2.2.1.1,h.2.2.2.1.2,h.2.2.2.2⟩
def abn_ (ls:List Link) (id:Int) (hd:List Int) (a:Int):List Near :=
 ((List.range (hd.length / 2)).filter fun k:Nat=>decide (gt hd (2 * (k:Int)+1)=a)).map fun k:Nat=>⟨gt hd (2 * (k:Int)),y8_ ls id (gt hd (2 * (k:Int))) a⟩
def wV_ (ls:List Link) (id:Int) (hd:List Int) (a:Int):Rcd:=⟨a,1,id,0,0,abn_ ls id hd a,0,false⟩
def ownL (x:Self):List Rcd:=(z3_ x.net.links x.id).map (wV_ x.net.links x.id x.heard)
def kE_ (id:Int) (r:Rcd):Bool:=!(r.kind == 1 && r.owner == id)
def byR (s:List Rcd) (id:Int) (l:List Rcd):List Rcd:=zB_ seq1 (s.filter (kE_ id)) l
def xp_ (id:Int) (t:Thing):Rcd:=⟨9,3,id,t.key,0,[],t.cost,t.far⟩
def thL (x:Self):List Rcd:=(x.net.things.filter fun t=>t.owner == x.id).map (xp_ x.id)
def beyL (x:Self) (S:List Rcd):List Rcd:=if vE_ x.net.links x.id=true then (z3_ x.net.links x.id).flatMap fun a=>beyondR S (z3_ x.net.links x.id) x.id a else []
def same (r:Rcd):Rcd:=r
def xE_ (x:Self) (S:List Rcd):List Rcd:=zB_ same [] (ownL x++beyL x S++thL x)
theorem apu_ (f:Rcd→Rcd) (s a b:List Rcd):zB_ f s (a++b)=zB_ f (zB_ f s a) b:=by
 unfold zB_;rw [List.foldl_append]
theorem ahb_ (x:Self):(ownL x).length≤3:=by unfold ownL;rw [List.length_map];exact wK_ _ _
theorem aMp_ (x:Self) (S:List Rcd):(beyL x S).length≤18:=by
 unfold beyL
 split
 ·have:=ano_ (z3_ x.net.links x.id) (fun a=>beyondR S (z3_ x.net.links x.id) x.id a) fun a=>jh_ _ _ _ _
  have:=wK_ x.net.links x.id
  omega
 ·simp
theorem aO6_ (x:Self):(thL x).length≤x.net.things.length:=by unfold thL;rw [List.length_map];exact List.length_filter_le _ _
theorem az6_ (ls:List Link) (id:Int) (hd:List Int) (a:Int):(abn_ ls id hd a).length≤hd.length:=by
 unfold abn_
 rw [List.length_map]
 refine Nat.le_trans (List.length_filter_le _ _) ?_
 rw [List.length_range];omega
structure Fit (k:Nat) (s:List Rcd):Prop where
 so:yQ_ s
 near:NearL s
 len:s.length≤k
theorem Fit.nil:Fit 0 []:=⟨.nil,fun r hr=>(by cases hr),Nat.le_refl _⟩
theorem Fit.mono {k k':Nat} {s:List Rcd} (h:Fit k s) (hk:k≤k'):Fit k' s:=⟨h.so,h.near,Nat.le_trans h.len hk⟩
theorem Fit.put {k:Nat} {s:List Rcd} (h:Fit k s) {r:Rcd} (hr:r.near.length≤1048576):Fit (k+1) (putR s r):=⟨u1_ h.so r,ar5_ h.near hr,aIg_ (by have:=h.len;omega)⟩
theorem Fit.puts {f:Rcd→Rcd} {l:List Rcd} (hl:∀ r∈l,(f r).near.length≤1048576):∀ {k:Nat} {s:List Rcd},Fit k s→Fit (k+l.length) (zB_ f s l):=by
 unfold zB_
 induction l with
 | nil=>intro k s h;exact h
 | cons x l ih =>
  intro k s h
  rw [List.foldl_cons,List.length_cons]
  exact (ih (fun r hr=>hl r (.tail _ hr)) (h.put (hl x (.head _)))).mono (by omega)
theorem Fit.filter {k:Nat} {s:List Rcd} (h:Fit k s) (p:Rcd→Bool):Fit k (s.filter p):=⟨h.so.filter _,fun r hr=>h.near r (List.mem_filter.1 hr).1,Nat.le_trans (List.length_filter_le _ _) h.len⟩
theorem ajt_ (ls:List Link) (id:Int) (hd:List Int) (a:Int) :
  (List.range (hd.length / 2)).foldl (fun (d:List Near) (k:Nat)=>if decide (gt hd (2 * (k:Int)+1)=a)=true then d++[(⟨gt hd (2 * (k:Int)),y8_ ls id (gt hd (2 * (k:Int))) a⟩:Near)] else d) []=abn_ ls id hd a:=by
 rw [w0_ (fun k:Nat=>decide (gt hd (2 * (k:Int)+1)=a)) (fun k:Nat=>(⟨gt hd (2 * (k:Int)),y8_ ls id (gt hd (2 * (k:Int))) a⟩:Near)),List.nil_append]
 rfl
theorem aP6_ (id boot n:Int) (ls:List Link) (ts t6:T) (hd:List Int) (hA:ascB (xj_ n) xD_ ls=true) (hl:ls.length≤12) (h1:hd.length % 2=0) (h2:hd.length≤1048576) :
  abl_ [ii id,ii boot,ii n,.l (ls.map zt_),ts,.l (hd.map eInt),t6]=some [.l (((z3_ ls id).map (wV_ ls id hd)).map eRcd)]:=by
 have hal:=wK_ ls id
 rw [aOo_];simp (disch:=omega) only [↓pq,ps,pz,↓reduceIte,reduceLE,reduceLT,reduceEq,reduceGT,reduceGE,reduceAdd,reduceSub,reduceMul,reduceNeg,ux_,uC_,arg_,jm_ _ _ _ _ _ hA hl]
 generalize z3_ ls id=A at hal
 refine (zg_ A (fun j c=>[.l (c.map eRcd),ii j]) (fun c a=>c++[wV_ ls id hd a]) (fun c=>some [T.l (c.map eRcd)]) [] (fun j c=>c.length≤j) rfl (zb_ (by omega)) (by simp) ?_ ?_).trans (by rw [foldl_map,List.nil_append])
 ·intro j c hj hc
  refine ⟨by simp;omega,fun q=>?_⟩
  simp (disch:=omega) only [↓pq,ps,pz,↓reduceIte,reduceLE,reduceLT,reduceEq,reduceGT,reduceGE,reduceAdd,reduceSub,reduceMul,reduceNeg,ux_,uC_,hj]
  unfold wV_
  rw [← ajt_]
  refine yX_ (hd.length / 2) (fun k d=>[ii (2 * k),.l (d.map zE_)]) (fun (d:List Near) (k:Nat)=>if decide (gt hd (2 * (k:Int)+1)=gt A (j:Int))=true then d++[(⟨gt hd (2 * (k:Int)),y8_ ls id (gt hd (2 * (k:Int))) (gt A (j:Int))⟩:Near)] else d) (fun d=>q [.l ((c++[(⟨gt A (j:Int),1,id,0,0,d,0,false⟩:Rcd)]).map eRcd),ii ((j:Int)+1)]) [] (fun k d=>d.length≤k) rfl (zb_ (by omega)) (by simp) ?_ ?_
  ·intro k d hk hd'
   refine ⟨by split;(· simp;omega);(· omega),fun s=>?_⟩
   have hlt:2 * (k:Int) < hd.length:=by omega
   have hlt2:2 * (k:Int)+1 < hd.length:=by omega
   by_cases e:gt hd (2 * (k:Int)+1)=gt A (j:Int)
   ·simp (disch:=omega) only [↓pq,ps,pz,↓reduceIte,reduceLE,reduceLT,reduceEq,reduceGT,reduceGE,reduceAdd,reduceSub,reduceMul,reduceNeg,ux_,uC_,hlt,hlt2,e,aGw_ _ _ _ _ _ _ (show ls.length≤1048576 by omega),decide_true,Int.mul_add]
   ·simp (disch:=omega) only [↓pq,ps,pz,↓reduceIte,reduceLE,reduceLT,reduceEq,reduceGT,reduceGE,reduceAdd,reduceSub,reduceMul,reduceNeg,ux_,uC_,hlt,hlt2,e,decide_false,Bool.false_eq_true,Int.mul_add]
  ·intro d s hd'
   have hlt:¬ (2 * ((hd.length / 2:Nat):Int) < hd.length):=by omega
   simp (disch:=omega) only [↓pq,ps,pz,↓reduceIte,reduceLE,reduceLT,reduceEq,reduceGT,reduceGE,reduceAdd,reduceSub,reduceMul,reduceNeg,ux_,uC_,hlt]
 ·intro c q hc
  simp (disch:=omega) only [↓pq,ps,pz,↓reduceIte,reduceLE,reduceLT,reduceEq,reduceGT,reduceGE,reduceAdd,reduceSub,reduceMul,reduceNeg,ux_,uC_,]
theorem aze_ (id boot n:Int) (ls:List Link) (ts t6:T) (hd:List Int) (a:Int) (hl:ls.length≤12) (h1:hd.length % 2=0) (h2:hd.length≤1048576) :
  uY_ [ii id,ii boot,ii n,.l (ls.map zt_),ts,.l (hd.map eInt),t6,ii a]=some (eRcd (wV_ ls id hd a)):=by
 rw [ayy_];simp (disch:=omega) only [↓pq,ps,pz,↓reduceIte,reduceLE,reduceLT,reduceEq,reduceGT,reduceGE,reduceAdd,reduceSub,reduceMul,reduceNeg,v6_,ae3_]
 unfold wV_
 rw [← ajt_]
 refine yX_ (hd.length / 2) (fun k d=>[ii (2 * k),.l (d.map zE_)]) (fun (d:List Near) (k:Nat)=>if decide (gt hd (2 * (k:Int)+1)=a)=true then d++[(⟨gt hd (2 * (k:Int)),y8_ ls id (gt hd (2 * (k:Int))) a⟩:Near)] else d) (fun d=>some (eRcd (⟨a,1,id,0,0,d,0,false⟩:Rcd))) [] (fun k d=>d.length≤k) rfl (zb_ (by omega)) (by simp) ?_ ?_
 ·intro k d hk hd'
  refine ⟨by split;(· simp;omega);(· omega),fun s=>?_⟩
  have hlt:2 * (k:Int) < hd.length:=by omega
  have hlt2:2 * (k:Int)+1 < hd.length:=by omega
  by_cases e:gt hd (2 * (k:Int)+1)=a
  ·simp (disch:=omega) only [↓pq,ps,pz,↓reduceIte,reduceLE,reduceLT,reduceEq,reduceGT,reduceGE,reduceAdd,reduceSub,reduceMul,reduceNeg,v6_,hlt,hlt2,e,j6_ _ _ _ _ _ _ (show ls.length≤1048576 by omega),decide_true,Int.mul_add]
  ·simp (disch:=omega) only [↓pq,ps,pz,↓reduceIte,reduceLE,reduceLT,reduceEq,reduceGT,reduceGE,reduceAdd,reduceSub,reduceMul,reduceNeg,v6_,hlt,hlt2,e,decide_false,Bool.false_eq_true,Int.mul_add]
 ·intro d s hd'
  have hlt:¬ (2 * ((hd.length / 2:Nat):Int) < hd.length):=by omega
  simp (disch:=omega) only [↓pq,ps,pz,↓reduceIte,reduceLE,reduceLT,reduceEq,reduceGT,reduceGE,reduceAdd,reduceSub,reduceMul,reduceNeg,v6_,hlt]
  rfl
theorem aQp_ (s:List Rcd) (id:Int) (l:List Rcd) {k:Nat} (hs:Fit k s) (hk:k+l.length≤1048570) (hn:NearL l) :
  afk_ [.l (s.map eRcd),ii id,.l (l.map eRcd)]=some [.l ((byR s id l).map eRcd)]:=by
 have hsl:=hs.len
 rw [aQg_];simp (disch:=omega) only [↓pq,ps,pz,↓reduceIte,reduceLE,reduceLT,reduceEq,reduceGT,reduceGE,reduceAdd,reduceSub,reduceMul,reduceNeg,j0_,jO_,ax9_]
 refine aww_ s (fun i c=>[.l (c.map eRcd),ii i]) (kE_ id) rfl (zb_ (by omega)) ?_ ?_
 ·intro i c hi hc q
  have:=hs.near.gt (n:=i) (by omega) hi
  unfold kE_
  simp (disch:=omega) only [↓pq,ps,pz,↓reduceIte,reduceLE,reduceLT,reduceEq,reduceGT,reduceGE,reduceAdd,reduceSub,reduceMul,reduceNeg,j0_,jO_,hi]
  by_cases k1:(gt s (i:Int)).kind=1
  ·by_cases k2:(gt s (i:Int)).owner=id
   ·simp [k1,k2]
   ·simp [k1,k2]
  ·simp [k1]
 ·intro q
  simp (disch:=omega) only [↓pq,ps,pz,↓reduceIte,reduceLE,reduceLT,reduceEq,reduceGT,reduceGE,reduceAdd,reduceSub,reduceMul,reduceNeg,j0_,jO_,]
  refine zg_ l (fun i c=>[.l (c.map eRcd),ii i]) (fun c r=>putR c (seq1 r)) (fun c=>some [T.l (c.map eRcd)]) (s.filter (kE_ id)) (fun i c=>Fit (k+i) c) rfl (zb_ (by omega)) (hs.filter _) ?_ ?_
  ·intro i d hi hd
   have hnr:=hn.gt (n:=i) (by omega) hi
   refine ⟨hd.put hnr,fun q=>?_⟩
   have hdl:=hd.len
   have hp:=qE_ d (gt l (i:Int)).area (gt l (i:Int)).kind (gt l (i:Int)).owner (gt l (i:Int)).key 1 (gt l (i:Int)).near (gt l (i:Int)).cost (gt l (i:Int)).far (by omega) hd.near hd.so hnr
   simp (disch:=omega) only [↓pq,ps,pz,↓reduceIte,reduceLE,reduceLT,reduceEq,reduceGT,reduceGE,reduceAdd,reduceSub,reduceMul,reduceNeg,j0_,jO_,hi,hp]
   rfl
  ·intro d q' hd
   simp (disch:=omega) only [↓pq,ps,pz,↓reduceIte,reduceLE,reduceLT,reduceEq,reduceGT,reduceGE,reduceAdd,reduceSub,reduceMul,reduceNeg,j0_,jO_,]
theorem aAw_ (id:Int) (ts:List Thing):∀ c:List Rcd,ts.foldl (fun c t=>if t.owner=id then putR c (xp_ id t) else c) c=zB_ same c ((ts.filter fun t=>t.owner == id).map (xp_ id)):=by
 induction ts with
 | nil=>intro c;rfl
 | cons t ts ih =>
  intro c
  rw [List.foldl_cons,ih]
  by_cases h:t.owner=id
  ·rw [if_pos h,List.filter_cons,if_pos (by simpa using h)]
   rfl
  ·rw [if_neg h,List.filter_cons,if_neg (by simpa using h)]
theorem amb_ (id:Int) (ts:List Thing) (h:ts.length≤4) (c:List Rcd) {k:Nat} (hc:Fit k c) (hk:k≤1000) :
  iter (y0_ x0_ (ii id) (.l (ts.map zr_)) (ii ts.length)) rounds [.l (c.map eRcd),ii 0]=some [.l ((zB_ same c ((ts.filter fun t=>t.owner == id).map (xp_ id))).map eRcd)]:=by
 rw [← aAw_]
 refine zg_ ts (fun i c=>[.l (c.map eRcd),ii i]) (fun c t=>if t.owner=id then putR c (xp_ id t) else c) (fun c=>some [T.l (c.map eRcd)]) c (fun i c=>Fit (k+i) c) rfl (zb_ (by omega)) hc ?_ ?_
 ·intro i d hi hd
  have hdl:=hd.len
  by_cases e:(gt ts (i:Int)).owner=id
  ·rw [if_pos e]
   refine ⟨hd.put (by simp [xp_]),fun q=>?_⟩
   have hp:=qE_ d 9 3 id (gt ts (i:Int)).key 0 [] (gt ts (i:Int)).cost (gt ts (i:Int)).far (by omega) hd.near hd.so (by simp)
   rw [List.map_nil] at hp
   simp (disch:=omega) only [↓pq,ps,pz,↓reduceIte,reduceLE,reduceLT,reduceEq,reduceGT,reduceGE,reduceAdd,reduceSub,reduceMul,reduceNeg,xe_,xh_,y0_,xc_,hi,e,hp]
   rfl
  ·rw [if_neg e]
   refine ⟨hd.mono (by omega),fun q=>?_⟩
   simp (disch:=omega) only [↓pq,ps,pz,↓reduceIte,reduceLE,reduceLT,reduceEq,reduceGT,reduceGE,reduceAdd,reduceSub,reduceMul,reduceNeg,xe_,xh_,y0_,xc_,hi,e]
 ·intro d q hd
  simp (disch:=omega) only [↓pq,ps,pz,↓reduceIte,reduceLE,reduceLT,reduceEq,reduceGT,reduceGE,reduceAdd,reduceSub,reduceMul,reduceNeg,xe_,xh_,y0_,xc_,]
theorem adb_ {x:Self} (h:x.heard.length≤1048576):NearL (ownL x):=fun r hr=>by
 obtain ⟨a,_,rfl⟩:=List.mem_map.1 hr
 exact Nat.le_trans (az6_ _ _ _ _) h
theorem ac2_ (s:List Rcd) (A:List Int) (fr area:Int):NearL (beyondR s A fr area):=fun r hr=>by
 rw [(amv_ hr).2.2.2.2.1];simp
theorem aP2_ {s:List Rcd} {id:Int} {l:List Rcd} {k:Nat} (hs:Fit k s) (hn:NearL l):Fit (k+l.length) (byR s id l):=Fit.puts (f:=seq1) (fun r hr=>hn r hr) (hs.filter _)
theorem jc_ {s:List Rcd} (h:zk_ s=true) (hn:NearL s):Fit 150 s:=⟨qI_ h,hn,by unfold zk_ at h;simp only [Bool.and_eq_true,decide_eq_true_eq] at h;exact h.1⟩
theorem aDx_ (id boot n:Int) (ls:List Link) (ts:List Thing) (hd:List Int) (st:List Rcd) (h1:ls.length≤1048576) (h2:ts.length≤1048576) (h3:hd.length≤1048576) (h4:st.length≤1048576) (h5:NearL st) (hk:xv_ ⟨id,boot,⟨n,ls,ts⟩,hd,st⟩=true) :
  uH_ [ii id,ii boot,ii n,.l (ls.map zt_),.l (ts.map zr_),.l (hd.map eInt),.l (st.map eRcd)]=some [.l ((xE_ ⟨id,boot,⟨n,ls,ts⟩,hd,st⟩ (byR st id (ownL ⟨id,boot,⟨n,ls,ts⟩,hd,st⟩))).map eRcd)]:=by
 obtain ⟨hN,hid,hbt,hev,hpr,hst⟩:=wd_ hk
 obtain ⟨n1,hl,ht,hA,hT⟩:=ur_ hN
 simp only at hid hbt hev hpr hst n1 hl ht hA hT
 have hfs:=jc_ hst h5
 have hol:=ahb_ ⟨id,boot,⟨n,ls,ts⟩,hd,st⟩
 have hon:=adb_ (x:=⟨id,boot,⟨n,ls,ts⟩,hd,st⟩) h3
 have hO:=aP6_ id boot n ls (.l (ts.map zr_)) (.l (st.map eRcd)) hd hA hl hev h3
 rw [show (z3_ ls id).map (wV_ ls id hd)=ownL ⟨id,boot,⟨n,ls,ts⟩,hd,st⟩ from rfl] at hO
 unfold xE_ beyL thL
 simp only
 generalize ownL ⟨id,boot,⟨n,ls,ts⟩,hd,st⟩=O at hol hon hO
 have hB:=aQp_ st id O hfs (by omega) hon
 have hbf:=aP2_ (id:=id) hfs hon
 generalize byR st id O=S at hB hbf
 have hSl:=hbf.len
 rw [aF2_];simp (disch:=omega) only [↓pq,ps,pz,↓reduceIte,reduceLE,reduceLT,reduceEq,reduceGT,reduceGE,reduceAdd,reduceSub,reduceMul,reduceNeg,xe_,xh_,y0_,xc_,agn_,agc_ _ _ _ _ _ _ _ h1 h2 h3 h4 h5,hk,hO]
 rw [apu_,apu_]
 refine zg_ O (fun i c=>[.l (c.map eRcd),ii i,.l (O.map eRcd)]) (fun c r=>putR c (same r)) (fun c=>some [T.l ((zB_ same (zB_ same c (if vE_ ls id=true then (z3_ ls id).flatMap fun a=>beyondR S (z3_ ls id) id a else [])) ((ts.filter fun t=>t.owner == id).map (xp_ id))).map eRcd)]) [] (fun i c=>Fit i c) rfl (zb_ (by omega)) Fit.nil ?_ ?_
 ·intro i d hi hd'
  have hnr:=hon.gt (n:=i) (by omega) hi
  refine ⟨hd'.put hnr,fun q=>?_⟩
  have hdl:=hd'.len
  have hp:=qE_ d (gt O (i:Int)).area (gt O (i:Int)).kind (gt O (i:Int)).owner (gt O (i:Int)).key (gt O (i:Int)).seq (gt O (i:Int)).near (gt O (i:Int)).cost (gt O (i:Int)).far (by omega) hd'.near hd'.so hnr
  simp (disch:=omega) only [↓pq,ps,pz,↓reduceIte,reduceLE,reduceLT,reduceEq,reduceGT,reduceGE,reduceAdd,reduceSub,reduceMul,reduceNeg,xe_,xh_,y0_,xc_,hi,hp]
  rfl
 ·intro c q hc
  have hal:=wK_ ls id
  cases hb:vE_ ls id with
  | false =>
   simp (disch:=omega) only [↓pq,ps,pz,↓reduceIte,reduceLE,reduceLT,reduceEq,reduceGT,reduceGE,reduceAdd,reduceSub,reduceMul,reduceNeg,xe_,xh_,y0_,xc_,jm_ _ _ _ _ _ hA hl,agq_ _ _ _ _ _ hA hl,hb,Bool.false_eq_true]
   exact amb_ id ts ht c hc (by omega)
  | true =>
   simp only [if_true]
   simp (disch:=omega) only [↓pq,ps,pz,↓reduceIte,reduceLE,reduceLT,reduceEq,reduceGT,reduceGE,reduceAdd,reduceSub,reduceMul,reduceNeg,xe_,xh_,y0_,xc_,jm_ _ _ _ _ _ hA hl,agq_ _ _ _ _ _ hA hl,hb,hB]
   generalize z3_ ls id=A at hal
   rw [← azk_]
   refine zg_ A (fun j c=>[.l (c.map eRcd),ii j]) (fun c a=>zB_ same c (beyondR S A id a)) (fun c=>some [T.l ((zB_ same c ((ts.filter fun t=>t.owner == id).map (xp_ id))).map eRcd)]) c (fun j c=>Fit (3+6 * j) c) rfl (zb_ (by omega)) (hc.mono (by omega)) ?_ ?_
   ·intro j c hj hc
    have hbl:=jh_ S A id (gt A (j:Int))
    have hbn:=ac2_ S A id (gt A (j:Int))
    refine ⟨(hc.puts (f:=same) fun r hr=>hbn r hr).mono (by omega),fun q=>?_⟩
    simp (disch:=omega) only [↓pq,ps,pz,↓reduceIte,reduceLE,reduceLT,reduceEq,reduceGT,reduceGE,reduceAdd,reduceSub,reduceMul,reduceNeg,xe_,xh_,y0_,xc_,hj,aGq_ S A id _ (show S.length≤1048576 by omega) hbf.near (show A.length≤1048576 by omega)]
    generalize beyondR S A id (gt A (j:Int))=B at hbl hbn
    refine zg_ B (fun i c=>[.l (c.map eRcd),ii i,.l (B.map eRcd)]) (fun c r=>putR c (same r)) (fun c=>q [.l (c.map eRcd),ii ((j:Int)+1)]) c (fun i c=>Fit (3+6 * j+i) c) rfl (zb_ (by omega)) hc ?_ ?_
    ·intro i d hi hd'
     have hnr:=hbn.gt (n:=i) (by omega) hi
     refine ⟨hd'.put hnr,fun q=>?_⟩
     have hdl:=hd'.len
     have hp:=qE_ d (gt B (i:Int)).area (gt B (i:Int)).kind (gt B (i:Int)).owner (gt B (i:Int)).key (gt B (i:Int)).seq (gt B (i:Int)).near (gt B (i:Int)).cost (gt B (i:Int)).far (by omega) hd'.near hd'.so hnr
     simp (disch:=omega) only [↓pq,ps,pz,↓reduceIte,reduceLE,reduceLT,reduceEq,reduceGT,reduceGE,reduceAdd,reduceSub,reduceMul,reduceNeg,xe_,xh_,y0_,xc_,hi,hp]
     rfl
    ·intro d q' hd'
     simp (disch:=omega) only [↓pq,ps,pz,↓reduceIte,reduceLE,reduceLT,reduceEq,reduceGT,reduceGE,reduceAdd,reduceSub,reduceMul,reduceNeg,xe_,xh_,y0_,xc_,]
   ·intro c q hc
    simp (disch:=omega) only [↓pq,ps,pz,↓reduceIte,reduceLE,reduceLT,reduceEq,reduceGT,reduceGE,reduceAdd,reduceSub,reduceMul,reduceNeg,xe_,xh_,y0_,xc_,]
    exact amb_ id ts ht c hc (by omega)
end Go.Proofs.YtiebbbmibbkpcaaGreatC
