/- What a node has to tell, by both programs. Conditions: none. -/
import Derived.Test.YtjimmglpkndemaaGreatXSW
namespace Go.Proofs.YtjimmglpkndemaaGreatC
open Int renaming reduceLE → Q0_, reduceLT → Q1_, reduceEq → Q2_, reduceGT → Q3_, reduceGE → Q4_, reduceAdd → Q5_, reduceSub → Q6_, reduceMul → Q7_, reduceNeg → Q8_
set_option linter.unusedVariables false
set_option linter.unusedSimpArgs false
theorem yU_ {x:Self} (h:xu_ x=true):wn_ x.net=true∧(1≤x.id∧x.id≤x.net.n)∧(0≤x.boot∧x.boot≤90)∧x.heard.length % 2=0∧uT_ (fun v a=>decide (0≤zn_ (zt_ x.id v a) x.net.links)) x.heard=true∧ze_ x.store=true:=by
 unfold xu_ at h
 simp only [bA_,inB_iff,decide_eq_true_eq] at h
 exact ⟨h.1,h.2.1,h.2.2.1,h.2.2.2.1.1,h.2.2.2.1.2,h.2.2.2.2⟩
def abc_ (ls:List Link) (id:Int) (hd:List Int) (a:Int):List Near :=
 ((List.range (hd.length / 2)).filter fun k:Nat=>decide (gt hd (2 * (k:Int)+1)=a)).map fun k:Nat=>⟨gt hd (2 * (k:Int)),yM_ ls id (gt hd (2 * (k:Int))) a⟩
def ve_ (ls:List Link) (id:Int) (hd:List Int) (a:Int):Rcd:=⟨a,1,id,0,0,abc_ ls id hd a,0,false⟩
def ownL (x:Self):List Rcd:=(zP_ x.net.links x.id).map (ve_ x.net.links x.id x.heard)
def ui_ (id:Int) (r:Rcd):Bool:=!(r.kind == 1 && r.owner == id)
def byR (s:List Rcd) (id:Int) (l:List Rcd):List Rcd:=zq_ seq1 (s.filter (ui_ id)) l
def xt_ (id:Int) (t:Thing):Rcd:=⟨9,3,id,t.key,0,[],t.cost,t.far⟩
def thL (x:Self):List Rcd:=(x.net.things.filter fun t=>t.owner == x.id).map (xt_ x.id)
def beyL (x:Self) (S:List Rcd):List Rcd:=if v1_ x.net.links x.id=true then (zP_ x.net.links x.id).flatMap fun a=>beyondR S (zP_ x.net.links x.id) x.id a else []
def same (r:Rcd):Rcd:=r
def y8_ (x:Self) (S:List Rcd):List Rcd:=zq_ same [] (ownL x++beyL x S++thL x)
theorem ao5_ (f:Rcd→Rcd) (s a b:List Rcd):zq_ f s (a++b)=zq_ f (zq_ f s a) b:=by
 unfold zq_;rw [List.foldl_append]
theorem ahe_ (x:Self):(ownL x).length≤3:=by unfold ownL;rw [List.length_map];exact wY_ _ _
theorem aK8_ (x:Self) (S:List Rcd):(beyL x S).length≤18:=by
 unfold beyL
 split
 ·have:=abp_ (zP_ x.net.links x.id) (fun a=>beyondR S (zP_ x.net.links x.id) x.id a) fun a=>vs_ _ _ _ _
  have:=wY_ x.net.links x.id
  omega
 ·simp
theorem aA4_ (x:Self):(thL x).length≤x.net.things.length:=by unfold thL;rw [List.length_map];exact List.length_filter_le _ _
theorem aAy_ (ls:List Link) (id:Int) (hd:List Int) (a:Int):(abc_ ls id hd a).length≤hd.length:=by
 unfold abc_
 rw [List.length_map]
 refine Nat.le_trans (List.length_filter_le _ _) ?_
 rw [List.length_range];omega
structure Fit (k:Nat) (s:List Rcd):Prop where
 so:zG_ s
 near:NearL s
 len:s.length≤k
theorem Fit.nil:Fit 0 []:=⟨.nil,fun r hr=>(by cases hr),Nat.le_refl _⟩
theorem Fit.mono {k k':Nat} {s:List Rcd} (h:Fit k s) (hk:k≤k'):Fit k' s:=⟨h.so,h.near,Nat.le_trans h.len hk⟩
theorem Fit.put {k:Nat} {s:List Rcd} (h:Fit k s) {r:Rcd} (hr:r.near.length≤1048576):Fit (k+1) (putR s r):=⟨vt_ h.so r,aqx_ h.near hr,aGj_ (by have:=h.len;omega)⟩
theorem Fit.puts {f:Rcd→Rcd} {l:List Rcd} (hl:∀ r∈l,(f r).near.length≤1048576):∀ {k:Nat} {s:List Rcd},Fit k s→Fit (k+l.length) (zq_ f s l):=by
 unfold zq_
 induction l with
 | nil=>intro k s h;exact h
 | cons x l ih =>
  intro k s h
  rw [List.foldl_cons,List.length_cons]
  exact (ih (fun r hr=>hl r (.tail _ hr)) (h.put (hl x (.head _)))).mono (by omega)
theorem Fit.filter {k:Nat} {s:List Rcd} (h:Fit k s) (p:Rcd→Bool):Fit k (s.filter p):=⟨h.so.filter _,fun r hr=>h.near r (List.mem_filter.1 hr).1,Nat.le_trans (List.length_filter_le _ _) h.len⟩
theorem aij_ (ls:List Link) (id:Int) (hd:List Int) (a:Int) :
  (List.range (hd.length / 2)).foldl (fun (d:List Near) (k:Nat)=>if decide (gt hd (2 * (k:Int)+1)=a)=true then d++[(⟨gt hd (2 * (k:Int)),yM_ ls id (gt hd (2 * (k:Int))) a⟩:Near)] else d) []=abc_ ls id hd a:=by
 rw [vR_ (fun k:Nat=>decide (gt hd (2 * (k:Int)+1)=a)) (fun k:Nat=>(⟨gt hd (2 * (k:Int)),yM_ ls id (gt hd (2 * (k:Int))) a⟩:Near)),List.nil_append]
 rfl
theorem aM9_ (id boot n:Int) (ls:List Link) (ts t6:T) (hd:List Int) (hA:ascB (yo_ n) zI_ ls=true) (hl:ls.length≤12) (h1:hd.length % 2=0) (h2:hd.length≤1048576) :
  abe_ [ii id,ii boot,ii n,.l (ls.map zr_),ts,.l (hd.map eInt),t6]=some [.l (((zP_ ls id).map (ve_ ls id hd)).map eRcd)]:=by
 have hal:=wY_ ls id
 rw [aNf_];simp (disch:=omega) only [↓pq,↓pj,ps,pz,↓reduceIte,Q0_,Q1_,Q2_,Q3_,Q4_,Q5_,Q6_,Q7_,Q8_,uI_,uO_,ap0_,kU_ _ _ _ _ _ hA hl]
 generalize zP_ ls id=A at hal
 refine (zj_ A (fun j c=>[.l (c.map eRcd),ii j]) (fun c a=>c++[ve_ ls id hd a]) (fun c=>some [T.l (c.map eRcd)]) [] (fun j c=>c.length≤j) rfl (za_ (by omega)) (by simp) ?_ ?_).trans (by rw [foldl_map,List.nil_append])
 ·intro j c hj hc
  refine ⟨by simp;omega,fun q=>?_⟩
  simp (disch:=omega) only [↓pq,↓pj,ps,pz,↓reduceIte,Q0_,Q1_,Q2_,Q3_,Q4_,Q5_,Q6_,Q7_,Q8_,uI_,uO_,hj]
  unfold ve_
  rw [← aij_]
  refine yV_ (hd.length / 2) (fun k d=>[ii (2 * k),.l (d.map zu_)]) (fun (d:List Near) (k:Nat)=>if decide (gt hd (2 * (k:Int)+1)=gt A (j:Int))=true then d++[(⟨gt hd (2 * (k:Int)),yM_ ls id (gt hd (2 * (k:Int))) (gt A (j:Int))⟩:Near)] else d) (fun d=>q [.l ((c++[(⟨gt A (j:Int),1,id,0,0,d,0,false⟩:Rcd)]).map eRcd),ii ((j:Int)+1)]) [] (fun k d=>d.length≤k) rfl (za_ (by omega)) (by simp) ?_ ?_
  ·intro k d hk hd'
   refine ⟨by split;(· simp;omega);(· omega),fun s=>?_⟩
   have hlt:2 * (k:Int) < hd.length:=by omega
   have hlt2:2 * (k:Int)+1 < hd.length:=by omega
   by_cases e:gt hd (2 * (k:Int)+1)=gt A (j:Int)
   ·simp (disch:=omega) only [↓pq,↓pj,ps,pz,↓reduceIte,Q0_,Q1_,Q2_,Q3_,Q4_,Q5_,Q6_,Q7_,Q8_,uI_,uO_,hlt,hlt2,e,aD5_ _ _ _ _ _ _ (show ls.length≤1048576 by omega),decide_true,Int.mul_add]
   ·simp (disch:=omega) only [↓pq,↓pj,ps,pz,↓reduceIte,Q0_,Q1_,Q2_,Q3_,Q4_,Q5_,Q6_,Q7_,Q8_,uI_,uO_,hlt,hlt2,e,decide_false,bF_,Int.mul_add]
  ·intro d s hd'
   have hlt:¬ (2 * ((hd.length / 2:Nat):Int) < hd.length):=by omega
   simp (disch:=omega) only [↓pq,↓pj,ps,pz,↓reduceIte,Q0_,Q1_,Q2_,Q3_,Q4_,Q5_,Q6_,Q7_,Q8_,uI_,uO_,hlt]
 ·intro c q hc
  simp (disch:=omega) only [↓pq,↓pj,ps,pz,↓reduceIte,Q0_,Q1_,Q2_,Q3_,Q4_,Q5_,Q6_,Q7_,Q8_,uI_,uO_,]
theorem ayh_ (id boot n:Int) (ls:List Link) (ts t6:T) (hd:List Int) (a:Int) (hl:ls.length≤12) (h1:hd.length % 2=0) (h2:hd.length≤1048576) :
  u7_ [ii id,ii boot,ii n,.l (ls.map zr_),ts,.l (hd.map eInt),t6,ii a]=some (eRcd (ve_ ls id hd a)):=by
 rw [ay5_];simp (disch:=omega) only [↓pq,↓pj,ps,pz,↓reduceIte,Q0_,Q1_,Q2_,Q3_,Q4_,Q5_,Q6_,Q7_,Q8_,uk_,aei_]
 unfold ve_
 rw [← aij_]
 refine yV_ (hd.length / 2) (fun k d=>[ii (2 * k),.l (d.map zu_)]) (fun (d:List Near) (k:Nat)=>if decide (gt hd (2 * (k:Int)+1)=a)=true then d++[(⟨gt hd (2 * (k:Int)),yM_ ls id (gt hd (2 * (k:Int))) a⟩:Near)] else d) (fun d=>some (eRcd (⟨a,1,id,0,0,d,0,false⟩:Rcd))) [] (fun k d=>d.length≤k) rfl (za_ (by omega)) (by simp) ?_ ?_
 ·intro k d hk hd'
  refine ⟨by split;(· simp;omega);(· omega),fun s=>?_⟩
  have hlt:2 * (k:Int) < hd.length:=by omega
  have hlt2:2 * (k:Int)+1 < hd.length:=by omega
  by_cases e:gt hd (2 * (k:Int)+1)=a
  ·simp (disch:=omega) only [↓pq,↓pj,ps,pz,↓reduceIte,Q0_,Q1_,Q2_,Q3_,Q4_,Q5_,Q6_,Q7_,Q8_,uk_,hlt,hlt2,e,j2_ _ _ _ _ _ _ (show ls.length≤1048576 by omega),decide_true,Int.mul_add]
  ·simp (disch:=omega) only [↓pq,↓pj,ps,pz,↓reduceIte,Q0_,Q1_,Q2_,Q3_,Q4_,Q5_,Q6_,Q7_,Q8_,uk_,hlt,hlt2,e,decide_false,bF_,Int.mul_add]
 ·intro d s hd'
  have hlt:¬ (2 * ((hd.length / 2:Nat):Int) < hd.length):=by omega
  simp (disch:=omega) only [↓pq,↓pj,ps,pz,↓reduceIte,Q0_,Q1_,Q2_,Q3_,Q4_,Q5_,Q6_,Q7_,Q8_,uk_,hlt]
  rfl
theorem aOg_ (s:List Rcd) (id:Int) (l:List Rcd) {k:Nat} (hs:Fit k s) (hk:k+l.length≤1048570) (hn:NearL l) :
  afv_ [.l (s.map eRcd),ii id,.l (l.map eRcd)]=some [.l ((byR s id l).map eRcd)]:=by
 have hsl:=hs.len
 rw [aOf_];simp (disch:=omega) only [↓pq,↓pj,ps,pz,↓reduceIte,Q0_,Q1_,Q2_,Q3_,Q4_,Q5_,Q6_,Q7_,Q8_,jT_,jQ_,avf_]
 refine ajo_ s (fun i c=>[.l (c.map eRcd),ii i]) (ui_ id) rfl (za_ (by omega)) ?_ ?_
 ·intro i c hi hc q
  have:=hs.near.gt (n:=i) (by omega) hi
  unfold ui_
  simp (disch:=omega) only [↓pq,↓pj,ps,pz,↓reduceIte,Q0_,Q1_,Q2_,Q3_,Q4_,Q5_,Q6_,Q7_,Q8_,jT_,jQ_,hi]
  by_cases k1:(gt s (i:Int)).kind=1
  ·by_cases k2:(gt s (i:Int)).owner=id
   ·simp [k1,k2]
   ·simp [k1,k2]
  ·simp [k1]
 ·intro q
  simp (disch:=omega) only [↓pq,↓pj,ps,pz,↓reduceIte,Q0_,Q1_,Q2_,Q3_,Q4_,Q5_,Q6_,Q7_,Q8_,jT_,jQ_,]
  refine zj_ l (fun i c=>[.l (c.map eRcd),ii i]) (fun c r=>putR c (seq1 r)) (fun c=>some [T.l (c.map eRcd)]) (s.filter (ui_ id)) (fun i c=>Fit (k+i) c) rfl (za_ (by omega)) (hs.filter _) ?_ ?_
  ·intro i d hi hd
   have hnr:=hn.gt (n:=i) (by omega) hi
   refine ⟨hd.put hnr,fun q=>?_⟩
   have hdl:=hd.len
   have hp:=qL_ d (gt l (i:Int)).area (gt l (i:Int)).kind (gt l (i:Int)).owner (gt l (i:Int)).key 1 (gt l (i:Int)).near (gt l (i:Int)).cost (gt l (i:Int)).far (by omega) hd.near hd.so hnr
   simp (disch:=omega) only [↓pq,↓pj,ps,pz,↓reduceIte,Q0_,Q1_,Q2_,Q3_,Q4_,Q5_,Q6_,Q7_,Q8_,jT_,jQ_,hi,hp]
   rfl
  ·intro d q' hd
   simp (disch:=omega) only [↓pq,↓pj,ps,pz,↓reduceIte,Q0_,Q1_,Q2_,Q3_,Q4_,Q5_,Q6_,Q7_,Q8_,jT_,jQ_,]
theorem ayd_ (id:Int) (ts:List Thing):∀ c:List Rcd,ts.foldl (fun c t=>if t.owner=id then putR c (xt_ id t) else c) c=zq_ same c ((ts.filter fun t=>t.owner == id).map (xt_ id)):=by
 induction ts with
 | nil=>intro c;rfl
 | cons t ts ih =>
  intro c
  rw [List.foldl_cons,ih]
  by_cases h:t.owner=id
  ·rw [if_pos h,List.filter_cons,if_pos (by simpa using h)]
   rfl
  ·rw [if_neg h,List.filter_cons,if_neg (by simpa using h)]
theorem alk_ (id:Int) (ts:List Thing) (h:ts.length≤4) (c:List Rcd) {k:Nat} (hc:Fit k c) (hk:k≤1000) :
  iter (xb_ x6_ (ii id) (.l (ts.map zo_)) (ii ts.length)) rounds [.l (c.map eRcd),ii 0]=some [.l ((zq_ same c ((ts.filter fun t=>t.owner == id).map (xt_ id))).map eRcd)]:=by
 rw [← ayd_]
 refine zj_ ts (fun i c=>[.l (c.map eRcd),ii i]) (fun c t=>if t.owner=id then putR c (xt_ id t) else c) (fun c=>some [T.l (c.map eRcd)]) c (fun i c=>Fit (k+i) c) rfl (za_ (by omega)) hc ?_ ?_
 ·intro i d hi hd
  have hdl:=hd.len
  by_cases e:(gt ts (i:Int)).owner=id
  ·rw [if_pos e]
   refine ⟨hd.put (by simp [xt_]),fun q=>?_⟩
   have hp:=qL_ d 9 3 id (gt ts (i:Int)).key 0 [] (gt ts (i:Int)).cost (gt ts (i:Int)).far (by omega) hd.near hd.so (by simp)
   rw [List.map_nil] at hp
   simp (disch:=omega) only [↓pq,↓pj,ps,pz,↓reduceIte,Q0_,Q1_,Q2_,Q3_,Q4_,Q5_,Q6_,Q7_,Q8_,xp_,xm_,xb_,xq_,hi,e,hp]
   rfl
  ·rw [if_neg e]
   refine ⟨hd.mono (by omega),fun q=>?_⟩
   simp (disch:=omega) only [↓pq,↓pj,ps,pz,↓reduceIte,Q0_,Q1_,Q2_,Q3_,Q4_,Q5_,Q6_,Q7_,Q8_,xp_,xm_,xb_,xq_,hi,e]
 ·intro d q hd
  simp (disch:=omega) only [↓pq,↓pj,ps,pz,↓reduceIte,Q0_,Q1_,Q2_,Q3_,Q4_,Q5_,Q6_,Q7_,Q8_,xp_,xm_,xb_,xq_,]
theorem ac6_ {x:Self} (h:x.heard.length≤1048576):NearL (ownL x):=fun r hr=>by
 obtain ⟨a,_,rfl⟩:=List.mem_map.1 hr
 exact Nat.le_trans (aAy_ _ _ _ _) h
theorem abn_ (s:List Rcd) (A:List Int) (fr area:Int):NearL (beyondR s A fr area):=fun r hr=>by
 rw [(u3_ hr).2.2.2.2.1];simp
theorem aNm_ {s:List Rcd} {id:Int} {l:List Rcd} {k:Nat} (hs:Fit k s) (hn:NearL l):Fit (k+l.length) (byR s id l):=Fit.puts (f:=seq1) (fun r hr=>hn r hr) (hs.filter _)
theorem q7_ {s:List Rcd} (h:ze_ s=true) (hn:NearL s):Fit 150 s:=⟨yD_ h,hn,by unfold ze_ at h;simp only [bA_,decide_eq_true_eq] at h;exact h.1⟩
theorem am3_ (id boot n:Int) (ls:List Link) (ts:List Thing) (hd:List Int) (st:List Rcd) (h1:ls.length≤1048576) (h2:ts.length≤1048576) (h3:hd.length≤1048576) (h4:st.length≤1048576) (h5:NearL st) (hk:xu_ ⟨id,boot,⟨n,ls,ts⟩,hd,st⟩=true) :
  wZ_ [ii id,ii boot,ii n,.l (ls.map zr_),.l (ts.map zo_),.l (hd.map eInt),.l (st.map eRcd)]=some [.l ((y8_ ⟨id,boot,⟨n,ls,ts⟩,hd,st⟩ (byR st id (ownL ⟨id,boot,⟨n,ls,ts⟩,hd,st⟩))).map eRcd)]:=by
 obtain ⟨hN,hid,hbt,hev,hpr,hst⟩:=yU_ hk
 obtain ⟨n1,hl,ht,hA,hT⟩:=w0_ hN
 simp only at hid hbt hev hpr hst n1 hl ht hA hT
 have hfs:=q7_ hst h5
 have hol:=ahe_ ⟨id,boot,⟨n,ls,ts⟩,hd,st⟩
 have hon:=ac6_ (x:=⟨id,boot,⟨n,ls,ts⟩,hd,st⟩) h3
 have hO:=aM9_ id boot n ls (.l (ts.map zo_)) (.l (st.map eRcd)) hd hA hl hev h3
 rw [show (zP_ ls id).map (ve_ ls id hd)=ownL ⟨id,boot,⟨n,ls,ts⟩,hd,st⟩ from rfl] at hO
 unfold y8_ beyL thL
 simp only
 generalize ownL ⟨id,boot,⟨n,ls,ts⟩,hd,st⟩=O at hol hon hO
 have hB:=aOg_ st id O hfs (by omega) hon
 have hbf:=aNm_ (id:=id) hfs hon
 generalize byR st id O=S at hB hbf
 have hSl:=hbf.len
 rw [aC8_];simp (disch:=omega) only [↓pq,↓pj,ps,pz,↓reduceIte,Q0_,Q1_,Q2_,Q3_,Q4_,Q5_,Q6_,Q7_,Q8_,xp_,xm_,xb_,xq_,ahy_,aa3_ _ _ _ _ _ _ _ h1 h2 h3 h4 h5,hk,hO]
 rw [ao5_,ao5_]
 refine zj_ O (fun i c=>[.l (c.map eRcd),ii i,.l (O.map eRcd)]) (fun c r=>putR c (same r)) (fun c=>some [T.l ((zq_ same (zq_ same c (if v1_ ls id=true then (zP_ ls id).flatMap fun a=>beyondR S (zP_ ls id) id a else [])) ((ts.filter fun t=>t.owner == id).map (xt_ id))).map eRcd)]) [] (fun i c=>Fit i c) rfl (za_ (by omega)) Fit.nil ?_ ?_
 ·intro i d hi hd'
  have hnr:=hon.gt (n:=i) (by omega) hi
  refine ⟨hd'.put hnr,fun q=>?_⟩
  have hdl:=hd'.len
  have hp:=qL_ d (gt O (i:Int)).area (gt O (i:Int)).kind (gt O (i:Int)).owner (gt O (i:Int)).key (gt O (i:Int)).seq (gt O (i:Int)).near (gt O (i:Int)).cost (gt O (i:Int)).far (by omega) hd'.near hd'.so hnr
  simp (disch:=omega) only [↓pq,↓pj,ps,pz,↓reduceIte,Q0_,Q1_,Q2_,Q3_,Q4_,Q5_,Q6_,Q7_,Q8_,xp_,xm_,xb_,xq_,hi,hp]
  rfl
 ·intro c q hc
  have hal:=wY_ ls id
  cases hb:v1_ ls id with
  | false =>
   simp (disch:=omega) only [↓pq,↓pj,ps,pz,↓reduceIte,Q0_,Q1_,Q2_,Q3_,Q4_,Q5_,Q6_,Q7_,Q8_,xp_,xm_,xb_,xq_,kU_ _ _ _ _ _ hA hl,apa_ _ _ _ _ _ hA hl,hb,bF_]
   exact alk_ id ts ht c hc (by omega)
  | true =>
   simp only [if_true]
   simp (disch:=omega) only [↓pq,↓pj,ps,pz,↓reduceIte,Q0_,Q1_,Q2_,Q3_,Q4_,Q5_,Q6_,Q7_,Q8_,xp_,xm_,xb_,xq_,kU_ _ _ _ _ _ hA hl,apa_ _ _ _ _ _ hA hl,hb,hB]
   generalize zP_ ls id=A at hal
   rw [← ay8_]
   refine zj_ A (fun j c=>[.l (c.map eRcd),ii j]) (fun c a=>zq_ same c (beyondR S A id a)) (fun c=>some [T.l ((zq_ same c ((ts.filter fun t=>t.owner == id).map (xt_ id))).map eRcd)]) c (fun j c=>Fit (3+6 * j) c) rfl (za_ (by omega)) (hc.mono (by omega)) ?_ ?_
   ·intro j c hj hc
    have hbl:=vs_ S A id (gt A (j:Int))
    have hbn:=abn_ S A id (gt A (j:Int))
    refine ⟨(hc.puts (f:=same) fun r hr=>hbn r hr).mono (by omega),fun q=>?_⟩
    simp (disch:=omega) only [↓pq,↓pj,ps,pz,↓reduceIte,Q0_,Q1_,Q2_,Q3_,Q4_,Q5_,Q6_,Q7_,Q8_,xp_,xm_,xb_,xq_,hj,aC9_ S A id _ (show S.length≤1048576 by omega) hbf.near (show A.length≤1048576 by omega)]
    generalize beyondR S A id (gt A (j:Int))=B at hbl hbn
    refine zj_ B (fun i c=>[.l (c.map eRcd),ii i,.l (B.map eRcd)]) (fun c r=>putR c (same r)) (fun c=>q [.l (c.map eRcd),ii ((j:Int)+1)]) c (fun i c=>Fit (3+6 * j+i) c) rfl (za_ (by omega)) hc ?_ ?_
    ·intro i d hi hd'
     have hnr:=hbn.gt (n:=i) (by omega) hi
     refine ⟨hd'.put hnr,fun q=>?_⟩
     have hdl:=hd'.len
     have hp:=qL_ d (gt B (i:Int)).area (gt B (i:Int)).kind (gt B (i:Int)).owner (gt B (i:Int)).key (gt B (i:Int)).seq (gt B (i:Int)).near (gt B (i:Int)).cost (gt B (i:Int)).far (by omega) hd'.near hd'.so hnr
     simp (disch:=omega) only [↓pq,↓pj,ps,pz,↓reduceIte,Q0_,Q1_,Q2_,Q3_,Q4_,Q5_,Q6_,Q7_,Q8_,xp_,xm_,xb_,xq_,hi,hp]
     rfl
    ·intro d q' hd'
     simp (disch:=omega) only [↓pq,↓pj,ps,pz,↓reduceIte,Q0_,Q1_,Q2_,Q3_,Q4_,Q5_,Q6_,Q7_,Q8_,xp_,xm_,xb_,xq_,]
   ·intro c q hc
    simp (disch:=omega) only [↓pq,↓pj,ps,pz,↓reduceIte,Q0_,Q1_,Q2_,Q3_,Q4_,Q5_,Q6_,Q7_,Q8_,xp_,xm_,xb_,xq_,]
    exact alk_ id ts ht c hc (by omega)
end Go.Proofs.YtjimmglpkndemaaGreatC
